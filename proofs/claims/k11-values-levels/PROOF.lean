import PyProof.Rows.All
import HandS.ForMost
import HandS.Exc
import HandS.Lambda
import HandS.EndTab
import HandS.Star
import HandS.IsInst
import HandS.Style
import HandS.Strs
import HandS.TryMany
import HandS.ExcField
import HandS.ExcIs
import HandS.SortInts
import HandS.SetBool
import PyProof.ReprRoads
import HandS.SetFor
import KE.KExcIs
import HandS.ExcInit
import HandS.Defaults
import HandS.Words
import HandS.HeadHook4
import PyProof.Rows.StrBin
import PySem.Challenge.RW_heldranks_k11_values_levels_and_extremes
-- Mn0
set_option Elab.async false
set_option linter.all false
set_option maxRecDepth 100000
set_option autoImplicit false
namespace Mn
open PySem PySem.Spec L2

/-! ## plain data -/
inductive D where
  | non | bl (b : Bool) | int (i : Int) | str (x : Str)
  | lst (xs : List D) | rol (xs : List D) | tup (xs : List D) | dct (kvs : List (Key × D)) | obj (C : Addr) (fs : List (Str × D))
/-- what a slot holds: nothing known; a value that stays; a list of one's own; such a list while it is walked -/
inductive Sl where
  | un | val (d : D) | own (xs : List D) | lock (xs : List D)

mutual
inductive Den (K : PySem.W.Frag) (G : Hp) : V → D → Prop
  | non : Den K G .non .non
  | bl (b : Bool) : Den K G (.bl b) (.bl b)
  | int (i : Int) : Den K G (.int i) (.int i)
  | str (x : Str) : Den K G (.str x) (.str x)
  | lst {a : Addr} {vs : List V} {xs : List D} : G a = some (.lst vs) → DenL K G vs xs → Den K G (.ref a) (.lst xs)
  | rol {a : Addr} {vs : List V} {xs : List D} : SqL K G a vs → DenL K G vs xs → Den K G (.ref a) (.rol xs)
  | tup {a : Addr} {vs : List V} {xs : List D} : SqT K G a vs → DenL K G vs xs → Den K G (.ref a) (.tup xs)
  | dct {a : Addr} {vs : List (Key × V)} {xs : List (Key × D)} : G a = some (.dK vs) → DenK K G vs xs → Den K G (.ref a) (.dct xs)
  | obj {a C dx : Addr} {vs : List (Str × V)} {xs : List (Str × D)} : G a = some (.ins C dx vs) → G dx = some (.own a) → DenF K G vs xs → Den K G (.ref a) (.obj C xs)
inductive DenL (K : PySem.W.Frag) (G : Hp) : List V → List D → Prop
  | nil : DenL K G [] []
  | cons {v : V} {vs : List V} {d : D} {ds : List D} : Den K G v d → DenL K G vs ds → DenL K G (v :: vs) (d :: ds)
inductive DenK (K : PySem.W.Frag) (G : Hp) : List (Key × V) → List (Key × D) → Prop
  | nil : DenK K G [] []
  | cons {k : Key} {v : V} {vs : List (Key × V)} {d : D} {ds : List (Key × D)} : Den K G v d → DenK K G vs ds → DenK K G ((k, v) :: vs) ((k, d) :: ds)
inductive DenF (K : PySem.W.Frag) (G : Hp) : List (Str × V) → List (Str × D) → Prop
  | nil : DenF K G [] []
  | cons {k : Str} {v : V} {vs : List (Str × V)} {d : D} {ds : List (Str × D)} : Den K G v d → DenF K G vs ds → DenF K G ((k, v) :: vs) ((k, d) :: ds)
end

section
variable {K : PySem.W.Frag} {G G' H : Hp}
theorem sqL_mono {a : Addr} {vs : List V} (e : Same G G') (h : SqL K G a vs) : SqL K G' a vs := e.seq h
theorem sqT_mono {a : Addr} {vs : List V} (e : Same G G') (h : SqT K G a vs) : SqT K G' a vs := by
  rcases h with (h | ⟨o, h⟩) | h
  · exact .inl (.inl (e _ _ h))
  · exact .inl (.inr ⟨o, e _ _ h⟩)
  · exact .inr h
mutual
theorem Den.mono (e : Same G G') : ∀ {v : V} {d : D}, Den K G v d → Den K G' v d
  | _, _, .non => .non
  | _, _, .bl b => .bl b
  | _, _, .int i => .int i
  | _, _, .str x => .str x
  | _, _, .lst h t => .lst (e _ _ h) (DenL.mono e t)
  | _, _, .rol h t => .rol (sqL_mono e h) (DenL.mono e t)
  | _, _, .tup h t => .tup (sqT_mono e h) (DenL.mono e t)
  | _, _, .dct h t => .dct (e _ _ h) (DenK.mono e t)
  | _, _, .obj h h2 t => .obj (e _ _ h) (e _ _ h2) (DenF.mono e t)
theorem DenL.mono (e : Same G G') : ∀ {v : List V} {d : List D}, DenL K G v d → DenL K G' v d
  | _, _, .nil => .nil
  | _, _, .cons h t => .cons (Den.mono e h) (DenL.mono e t)
theorem DenK.mono (e : Same G G') : ∀ {v : List (Key × V)} {d : List (Key × D)}, DenK K G v d → DenK K G' v d
  | _, _, .nil => .nil
  | _, _, .cons h t => .cons (Den.mono e h) (DenK.mono e t)
theorem DenF.mono (e : Same G G') : ∀ {v : List (Str × V)} {d : List (Str × D)}, DenF K G v d → DenF K G' v d
  | _, _, .nil => .nil
  | _, _, .cons h t => .cons (Den.mono e h) (DenF.mono e t)
end
theorem DenL.length : ∀ {v : List V} {d : List D}, DenL K G v d → v.length = d.length
  | _, _, .nil => rfl
  | _, _, .cons _ t => congrArg Nat.succ t.length
theorem DenL.get : ∀ {vs : List V} {ds : List D} {i : Nat} {d : D}, DenL K G vs ds → ds[i]? = some d → ∃ v, vs[i]? = some v ∧ Den K G v d
  | _, _, _, _, .nil, e => by simp at e
  | _, _, 0, _, .cons h _, e => by simp at e; subst e; exact ⟨_, rfl, h⟩
  | _, _, i + 1, d, .cons _ t, e => by
    obtain ⟨v, h1, h2⟩ := DenL.get (i := i) (d := d) t (by simpa using e)
    exact ⟨v, by simpa using h1, h2⟩
theorem DenL.getV : ∀ {vs : List V} {ds : List D} {i : Nat} {v : V}, DenL K G vs ds → vs[i]? = some v → ∃ d, ds[i]? = some d ∧ Den K G v d
  | _, _, _, _, .nil, e => by simp at e
  | _, _, 0, _, .cons h _, e => by simp at e; subst e; exact ⟨_, rfl, h⟩
  | _, _, i + 1, d, .cons _ t, e => by
    obtain ⟨v, h1, h2⟩ := DenL.getV (i := i) (v := d) t (by simpa using e)
    exact ⟨v, by simpa using h1, h2⟩
theorem DenL.append : ∀ {vs ws : List V} {ds es : List D}, DenL K G vs ds → DenL K G ws es → DenL K G (vs ++ ws) (ds ++ es)
  | _, _, _, _, .nil, s => s
  | _, _, _, _, .cons h t, s => .cons h (t.append s)
theorem DenL.take : ∀ {vs : List V} {ds : List D} (n : Nat), DenL K G vs ds → DenL K G (vs.take n) (ds.take n)
  | _, _, 0, _ => .nil
  | _, _, _ + 1, .nil => .nil
  | _, _, n + 1, .cons h t => .cons h (t.take n)
theorem DenL.drop : ∀ {vs : List V} {ds : List D} (n : Nat), DenL K G vs ds → DenL K G (vs.drop n) (ds.drop n)
  | _, _, 0, h => h
  | _, _, _ + 1, .nil => .nil
  | _, _, n + 1, .cons _ t => t.drop n
theorem DenL.set {v : V} {d : D} (h : Den K G v d) : ∀ {vs : List V} {ds : List D} (i : Nat), DenL K G vs ds → DenL K G (vs.set i v) (ds.set i d)
  | _, _, _, .nil => .nil
  | _, _, 0, .cons _ t => .cons h t
  | _, _, i + 1, .cons q t => .cons q (DenL.set h i t)
theorem DenL.reverse : ∀ {vs : List V} {ds : List D}, DenL K G vs ds → DenL K G vs.reverse ds.reverse
  | _, _, .nil => .nil
  | _, _, .cons h t => by
    rw [List.reverse_cons, List.reverse_cons]
    exact t.reverse.append (.cons h .nil)
end

/-! ## slots, heaps -/
def Ow (s : Option Sl) (xs : List D) : Prop := s = some (.own xs) ∨ s = some (.lock xs)
def OwnAt (δ : List Sl) (σ : St) (i : Nat) (a : Addr) : Prop := (∃ xs, Ow δ[i]? xs) ∧ σ[i]? = some (some (.ref a))
def Own (δ : List Sl) (σ : St) (a : Addr) : Prop := ∃ i, OwnAt δ σ i a

/-- G: what stays for ever; H: all that is tracked; T: the tables of code objects -/
structure Rel (K : PySem.W.Frag) (T : List (Addr × Str)) (δ : List Sl) (σ : St) (G H : Hp) : Prop where
  len : σ.length = δ.length
  sub : Same G H
  ntb : ∀ b ps, G b ≠ some (.tbl ps)
  tab : LamX.Tabs T H
  val : ∀ (i : Nat) (d : D), δ[i]? = some (.val d) → ∃ v, σ[i]? = some (some v) ∧ Den K G v d
  own : ∀ (i : Nat) (xs : List D), Ow δ[i]? xs → ∃ a vs, σ[i]? = some (some (.ref a)) ∧ H a = some (.lst vs) ∧ G a = none ∧ DenL K G vs xs
  sep : ∀ (i j : Nat) (a : Addr), OwnAt δ σ i a → OwnAt δ σ j a → i = j

/-- from (O, G, H) to (O', G', H'): O, O' what may be changed -/
structure Go (O : Addr → Prop) (G H : Hp) (O' : Addr → Prop) (G' H' : Hp) : Prop where
  ex : Same G G'
  keep : ∀ b o, H b = some o → ¬ O b → (∀ ps, o ≠ .tbl ps) → H' b = some o
  live : ∀ b o, H b = some o → ∃ o', H' b = some o'
  new : ∀ b o, G' b = some o → G b = some o ∨ H b = none ∨ O b
  grow : ∀ b, O' b → O b ∨ H b = none

theorem Go.refl {O : Addr → Prop} {G H : Hp} : Go O G H O G H :=
  ⟨Same.refl G, fun _ _ h _ _ => h, fun _ o h => ⟨o, h⟩, fun _ _ h => .inl h, fun _ h => .inl h⟩
theorem Go.back {O O' : Addr → Prop} {G H G' H' : Hp} (g : Go O G H O' G' H') {b : Addr} (h : H' b = none) : H b = none := by
  cases q : H b with
  | none => rfl
  | some o =>
    obtain ⟨o', e⟩ := g.live b o q
    rw [h] at e
    cases e
theorem Go.trans {O O1 O2 : Addr → Prop} {G H G1 H1 G2 H2 : Hp} (a : Go O G H O1 G1 H1) (b : Go O1 G1 H1 O2 G2 H2) : Go O G H O2 G2 H2 where
  ex := a.ex.trans b.ex
  keep := fun c o h n t => b.keep c o (a.keep c o h n t) (fun z => (a.grow c z).elim n fun q => by rw [h] at q; cases q) t
  live := fun c o h => by
    obtain ⟨o1, e1⟩ := a.live c o h
    exact b.live c o1 e1
  new := fun c o h => by
    rcases b.new c o h with z | z | z
    · exact a.new c o z
    · exact .inr (.inl (a.back z))
    · rcases a.grow c z with z | z
      · exact .inr (.inr z)
      · exact .inr (.inl z)
  grow := fun c z => by
    rcases b.grow c z with z | z
    · exact a.grow c z
    · exact .inr (a.back z)

/-! ### what an expression gives: a value that stays; a new list; the list of a slot -/
inductive R where
  | val (d : D) | new (xs : List D) | bor (i : Nat)

def RV (K : PySem.W.Frag) (G H : Hp) (σ : St) (H0 : Hp) (v : V) : R → Prop
  | .val d => Den K G v d
  | .bor i => σ[i]? = some (some v)
  | .new xs => ∃ a vs, v = .ref a ∧ H a = some (.lst vs) ∧ G a = none ∧ H0 a = none ∧ DenL K G vs xs

/-- slots stay as they are; lists of one's own do not come up; locked ones stay -/
structure GoE (δ δ' : List Sl) (σ : St) (G H G' H' : Hp) : Prop where
  go : Go (Own δ σ) G H (Own δ' σ) G' H'
  less : ∀ (i : Nat) (xs : List D), Ow δ'[i]? xs → ∃ ys, Ow δ[i]? ys
  lock : ∀ (i : Nat) (xs : List D), δ[i]? = some (.lock xs) → δ'[i]? = some (.lock xs)
  fate : ∀ (i : Nat) (a : Addr), OwnAt δ σ i a → (∃ xs, Ow δ'[i]? xs) ∨ ∃ o, G' a = some o

section
variable {K : PySem.W.Frag} {T : List (Addr × Str)} {δ δ1 δ2 : List Sl} {σ : St} {G H G1 H1 G2 H2 H0 : Hp}
theorem GoE.refl : GoE δ δ σ G H G H := ⟨Go.refl, fun _ xs h => ⟨xs, h⟩, fun _ _ h => h, fun _ _ h => .inl h.1⟩
theorem GoE.trans (a : GoE δ δ1 σ G H G1 H1) (b : GoE δ1 δ2 σ G1 H1 G2 H2) : GoE δ δ2 σ G H G2 H2 :=
  ⟨a.go.trans b.go, fun i xs h => let ⟨ys, q⟩ := b.less i xs h; a.less i ys q, fun i xs h => b.lock i xs (a.lock i xs h), fun i x h => (a.fate i x h).elim (fun z => b.fate i x ⟨z, h.2⟩) fun ⟨o, z⟩ => .inr ⟨o, b.go.ex _ _ z⟩⟩
theorem GoE.sub (a : GoE δ δ1 σ G H G1 H1) {b : Addr} (h : Own δ1 σ b) : Own δ σ b := by
  obtain ⟨i, ⟨xs, h⟩, e⟩ := h
  exact ⟨i, a.less i xs h, e⟩
theorem Rel.live (r : Rel K T δ σ G H) {a : Addr} (h : Own δ σ a) : ∃ o, H a = some o := by
  obtain ⟨i, ⟨xs, h⟩, e⟩ := h
  obtain ⟨b, vs, e1, e2, _⟩ := r.own i xs h
  rw [e] at e1
  cases e1
  exact ⟨_, e2⟩
/-- what was given stays given while the rest is worked out -/
theorem RV.stay {v : V} {r : R} (h : RV K G1 H1 σ H v r) (R0 : Rel K T δ σ G H) (a : GoE δ δ1 σ G H G1 H1) (b : GoE δ1 δ2 σ G1 H1 G2 H2) : RV K G2 H2 σ H v r := by
  cases r with
  | val d => exact Den.mono b.go.ex h
  | bor i => exact h
  | new xs =>
    obtain ⟨p, vs, e, h1, h2, h3, h4⟩ := h
    have no : ¬ Own δ1 σ p := fun z => by
      obtain ⟨o, q⟩ := R0.live (a.sub z)
      rw [h3] at q
      cases q
    refine ⟨p, vs, e, b.go.keep p _ h1 no (fun ps z => by cases z), ?_, h3, h4.mono b.go.ex⟩
    cases q : G2 p with
    | none => rfl
    | some o =>
      rcases b.go.new p o q with z | z | z
      · rw [h2] at z; cases z
      · rw [h1] at z; cases z
      · exact absurd z no
theorem RV.back {v : V} {r : R} (h : RV K G2 H2 σ H1 v r) (a : GoE δ δ1 σ G H G1 H1) : RV K G2 H2 σ H v r := by
  cases r with
  | val d => exact h
  | bor i => exact h
  | new xs =>
    obtain ⟨p, vs, e, h1, h2, h3, h4⟩ := h
    exact ⟨p, vs, e, h1, h2, a.go.back h3, h4⟩
end

/-! ### what is seen of an operand at last -/
def R.see (δ : List Sl) : R → Option D
  | .val d => some d
  | .new xs => some (.lst xs)
  | .bor i => match δ[i]? with
    | some (.val d) => some d
    | some (.own xs) => some (.lst xs)
    | some (.lock xs) => some (.lst xs)
    | _ => none
/-- v is d now -/
def See (K : PySem.W.Frag) (G H : Hp) (v : V) (d : D) : Prop := Den K G v d ∨ ∃ a vs xs, v = .ref a ∧ d = .lst xs ∧ H a = some (.lst vs) ∧ DenL K G vs xs

section
variable {K : PySem.W.Frag} {T : List (Addr × Str)} {δ δ1 δ2 : List Sl} {σ : St} {G H G1 H1 G2 H2 H0 : Hp} {v : V} {d : D}
theorem RV.see {r : R} (h : RV K G H σ H0 v r) (R0 : Rel K T δ σ G H) (e : r.see δ = some d) : See K G H v d := by
  cases r with
  | val d' =>
    cases e
    exact .inl h
  | new xs =>
    cases e
    obtain ⟨p, vs, e, h1, h2, h3, h4⟩ := h
    exact .inr ⟨p, vs, xs, e, rfl, h1, h4⟩
  | bor i =>
    have h : σ[i]? = some (some v) := h
    unfold R.see at e
    dsimp only at e
    split at e
    · rename_i d' q
      cases e
      obtain ⟨v', h1, h2⟩ := R0.val i _ q
      rw [h] at h1
      cases h1
      exact .inl h2
    · rename_i xs q
      cases e
      obtain ⟨a, vs, h1, h2, h3, h4⟩ := R0.own i xs (.inl q)
      rw [h] at h1
      cases h1
      exact .inr ⟨a, vs, xs, rfl, rfl, h2, h4⟩
    · rename_i xs q
      cases e
      obtain ⟨a, vs, h1, h2, h3, h4⟩ := R0.own i xs (.inr q)
      rw [h] at h1
      cases h1
      exact .inr ⟨a, vs, xs, rfl, rfl, h2, h4⟩
    · cases e
theorem See.int {i : Int} (h : See K G H v (.int i)) : v = .int i := by
  rcases h with h | ⟨_, _, _, _, e, _⟩
  · cases h; rfl
  · cases e
theorem See.str {x : Str} (h : See K G H v (.str x)) : v = .str x := by
  rcases h with h | ⟨_, _, _, _, e, _⟩
  · cases h; rfl
  · cases e
theorem See.bl {x : Bool} (h : See K G H v (.bl x)) : v = .bl x := by
  rcases h with h | ⟨_, _, _, _, e, _⟩
  · cases h; rfl
  · cases e
theorem See.non (h : See K G H v .non) : v = .non := by
  rcases h with h | ⟨_, _, _, _, e, _⟩
  · cases h; rfl
  · cases e
theorem See.lst {xs : List D} (s : Same G H) (h : See K G H v (.lst xs)) : ∃ a vs, v = .ref a ∧ H a = some (.lst vs) ∧ DenL K G vs xs := by
  rcases h with h | ⟨a, vs, ys, e1, e2, h1, h2⟩
  · cases h with
    | lst h t => exact ⟨_, _, rfl, s _ _ h, t⟩
  · cases e2
    exact ⟨a, vs, e1, h1, h2⟩
theorem See.rol {xs : List D} (s : Same G H) (h : See K G H v (.rol xs)) : ∃ a vs, v = .ref a ∧ SqL K H a vs ∧ DenL K G vs xs := by
  rcases h with h | ⟨a, vs, ys, e1, e2, h1, h2⟩
  · cases h with
    | rol h t => exact ⟨_, _, rfl, sqL_mono s h, t⟩
  · cases e2
theorem See.tup {xs : List D} (s : Same G H) (h : See K G H v (.tup xs)) : ∃ a vs, v = .ref a ∧ SqT K H a vs ∧ DenL K G vs xs := by
  rcases h with h | ⟨a, vs, ys, e1, e2, h1, h2⟩
  · cases h with
    | tup h t => exact ⟨_, _, rfl, sqT_mono s h, t⟩
  · cases e2
theorem See.dct {xs : List (Key × D)} (s : Same G H) (h : See K G H v (.dct xs)) : ∃ a vs, v = .ref a ∧ H a = some (.dK vs) ∧ DenK K G vs xs := by
  rcases h with h | ⟨a, vs, ys, e1, e2, h1, h2⟩
  · cases h with
    | dct h t => exact ⟨_, _, rfl, s _ _ h, t⟩
  · cases e2
/-- any of the three sequences -/
theorem See.seqL {xs : List D} (s : Same G H) (h : See K G H v (.lst xs)) : ∃ a vs, v = .ref a ∧ SqL K H a vs ∧ DenL K G vs xs := by
  obtain ⟨a, vs, e, h1, h2⟩ := h.lst s
  exact ⟨a, vs, e, .inl (.inl h1), h2⟩
end
end Mn

-- Mn1
set_option Elab.async false
set_option linter.all false
set_option maxRecDepth 100000
set_option autoImplicit false
namespace Mn
open PySem PySem.Spec L2

/-! ## the small language: as PySem's, names resolved -/
/-- built-in functions by name -/
inductive Bi where
  | len | abs | max | min | int | divmod | repr | all | any | sorted | tuple | list
def Bi.nm : Bi → Str
  | .len => "len" | .abs => "abs" | .max => "max" | .min => "min" | .int => "int" | .divmod => "divmod" | .repr => "repr" | .all => "all" | .any => "any" | .sorted => "sorted" | .tuple => "tuple" | .list => "list"
/-- methods of built-in types by name -/
inductive Me where
  | append | insert | get
def Me.nm : Me → Str
  | .append => "append" | .insert => "insert" | .get => "get"

mutual
inductive E where
  | var (i : Nat) (p : Pos)
  | con (c : Const) (k : Nat) (p : Pos)
  | glo (g : Nat) (p : Pos)
  | bin (op : Operator) (a b : E) (p : Pos)
  | neg (a : E) (p : Pos)
  | nt (a : E) (p : Pos)
  | bop (op : BoolOp) (es : Es) (p : Pos)
  | cmp (op : CmpOp) (a b : E) (p : Pos)
  | ife (c a b : E) (p : Pos)
  | lst (es : Es) (p : Pos)
  | tup (es : Es) (k : Nat) (p : Pos)
  | dis (kvs : Ps) (p : Pos)
  | idx (a b : E) (p : Pos)
  | sli (a : E) (lo hi : Option E) (q p : Pos)
  | rev (a : E) (k : Nat) (p1 p2 q p : Pos)
  | call (f : Nat) (q : Pos) (es : Es) (p : Pos)
  | callk (f : Nat) (q : Pos) (ks : List (Str × Pos)) (es : Es) (p : Pos)
  | bi (b : Bi) (q : Pos) (es : Es) (p : Pos)
  | isi (a : E) (t : String) (tp q p : Pos)
  | isiT (a : E) (ts : List (String × Pos)) (k : Nat) (tp q p : Pos)
  | me (m : Me) (o : E) (q : Pos) (es : Es) (p : Pos)
  | lc (elt : E) (x : Nat) (xp : Pos) (it : It) (c : Es) (sc : Scope) (p : Pos)
  | srt (q : Pos) (elt : E) (x : Nat) (xp : Pos) (it : It) (c : Es) (sc : Scope) (p1 p : Pos)
  | srs (q1 q2 : Pos) (e : E) (p1 p : Pos)
  | told (f : Nat) (q : Pos) (body : E) (ar : Arguments) (sc : Scope) (lp p : Pos)
inductive Es where
  | nil | cons (e : E) (es : Es)
inductive Ps where
  | nil | cons (k v : E) (ps : Ps)
inductive It where
  | seq (e : E) | rng1 (q : Pos) (e : E) (p : Pos) | rng2 (q : Pos) (a b : E) (p : Pos)
end
inductive Tg where
  | nm (i : Nat) (p : Pos) | sub (o i : E) (p : Pos)
mutual
inductive S where
  | asg (i : Nat) (q : Pos) (e : E) (p : Pos)
  | par (i j : Nat) (q1 q2 : Pos) (k : Nat) (tp : Pos) (a b : E) (k2 : Nat) (vp p : Pos)
  | unp (t1 t2 : Tg) (k : Nat) (tp : Pos) (e : E) (p : Pos)
  | sub (o i : E) (q : Pos) (e : E) (p : Pos)
  | exp (e : E) (p : Pos)
  | ret (e : E) (p : Pos)
  | iff (c : E) (a b : Ss) (p : Pos)
  | fr (x : Nat) (xp : Pos) (it : It) (b : Ss) (p : Pos)
  | raise (c : Nat) (q : Pos) (e : E) (p1 p : Pos)
inductive Ss where
  | nil | cons (s : S) (ss : Ss)
end
/-- what is written of the module: names of defs, constants -/
structure Gam where
  fns : List Str
  gls : List Str
  cls : List Str
  kws : List (Nat × List Str)
  told : Str

section
variable (Γ : Gam) (N : List Str)
def gname (l : List Str) (i : Nat) : Str := l.getD i "?"
mutual
def up : E → Expr
  | .var i p => .Name (gname N i) p
  | .con c k p => .Constant c k p
  | .glo g p => .Name (gname Γ.gls g) p
  | .bin op a b p => .BinOp (up a) op (up b) p
  | .neg a p => .UnaryOp .USub (up a) p
  | .nt a p => .UnaryOp .Not (up a) p
  | .bop op es p => .BoolOp op (ups es) p
  | .cmp op a b p => .Compare (up a) [op] [up b] p
  | .ife c a b p => .IfExp (up c) (up a) (up b) p
  | .lst es p => .List (ups es) p
  | .tup es k p => .Tuple (ups es) k p
  | .dis kvs p => .Dict (upk kvs) (upv kvs) p
  | .idx a b p => .Subscript (up a) (up b) p
  | .sli a lo hi q p => .Subscript (up a) (.Slice (upo lo) (upo hi) none q) p
  | .rev a k p1 p2 q p => .Subscript (up a) (.Slice none none (some (.UnaryOp .USub (.Constant (.int 1) k p1) p2)) q) p
  | .call f q es p => .Call (.Name (gname Γ.fns f) q) (ups es) [] p
  | .callk f q ks es p => .Call (.Name (gname Γ.fns f) q) [] ((ks.zip (ups es)).map fun x => ⟨some x.1.1, x.2, x.1.2⟩) p
  | .bi b q es p => .Call (.Name b.nm q) (ups es) [] p
  | .isi a t tp q p => .Call (.Name "isinstance" q) [up a, .Name (Str.ofString t) tp] [] p
  | .isiT a ts k tp q p => .Call (.Name "isinstance" q) [up a, .Tuple (ts.map fun t => .Name (Str.ofString t.1) t.2) k tp] [] p
  | .me m o q es p => .Call (.Attribute (up o) m.nm q) (ups es) [] p
  | .lc elt x xp it c sc p => .ListComp (up elt) [⟨.Name (gname N x) xp, upi it, ups c, 0⟩] sc p
  | .srt q elt x xp it c sc p1 p => .Call (.Name "sorted" q) [.SetComp (up elt) [⟨.Name (gname N x) xp, upi it, ups c, 0⟩] sc p1] [] p
  | .srs q1 q2 e p1 p => .Call (.Name "sorted" q1) [.Call (.Name "set" q2) [up e] [] p1] [] p
  | .told f q body ar sc lp p => .Call (.Name (gname Γ.fns f) q) [.Lambda ar (up body) sc lp] [] p
def ups : Es → List Expr
  | .nil => []
  | .cons e es => up e :: ups es
def upo : Option E → Option Expr
  | none => none
  | some e => some (up e)
def upk : Ps → List (Option Expr)
  | .nil => []
  | .cons k _ ps => some (up k) :: upk ps
def upv : Ps → List Expr
  | .nil => []
  | .cons _ v ps => up v :: upv ps
def upi : It → Expr
  | .seq e => up e
  | .rng1 q e p => .Call (.Name "range" q) [up e] [] p
  | .rng2 q a b p => .Call (.Name "range" q) [up a, up b] [] p
end
def upt : Tg → Expr
  | .nm i p => .Name (gname N i) p
  | .sub o i p => .Subscript (up Γ N o) (up Γ N i) p
mutual
def upS : S → Stmt
  | .asg i q e p => .Assign [.Name (gname N i) q] (up Γ N e) p
  | .par i j q1 q2 k tp a b k2 vp p => .Assign [.Tuple [.Name (gname N i) q1, .Name (gname N j) q2] k tp] (.Tuple [up Γ N a, up Γ N b] k2 vp) p
  | .unp t1 t2 k tp e p => .Assign [.Tuple [upt Γ N t1, upt Γ N t2] k tp] (up Γ N e) p
  | .sub o i q e p => .Assign [.Subscript (up Γ N o) (up Γ N i) q] (up Γ N e) p
  | .exp e p => .Expr (up Γ N e) p
  | .ret e p => .Return (some (up Γ N e)) p
  | .iff c a b p => .If (up Γ N c) (upSs a) (upSs b) p
  | .fr x xp it b p => .For (.Name (gname N x) xp) (upi Γ N it) (upSs b) [] p
  | .raise c q e p1 p => .Raise (some (.Call (.Name (gname Γ.cls c) q) [up Γ N e] [] p1)) none p
def upSs : Ss → List Stmt
  | .nil => []
  | .cons s ss => upS s :: upSs ss
end
end
end Mn

-- Mn2
set_option Elab.async false
set_option linter.all false
set_option maxRecDepth 100000
set_option autoImplicit false
namespace Mn
open PySem PySem.Spec L2

/-! ## operations on plain data -/
inductive RD where
  | val (d : D) | new (xs : List D)
def RD.r : RD → R
  | .val d => .val d
  | .new xs => .new xs
/-- the greatest length that is asked for -/
abbrev big : Nat := 1000000

def binD : Operator → D → D → Option RD
  | .Add, .int i, .int j => some (.val (.int (i + j)))
  | .Add, .str x, .str y => if x.length + y.length ≤ big then some (.val (.str (x ++ y))) else none
  | .Add, .lst xs, .lst ys => if xs.length + ys.length ≤ big then some (.new (xs ++ ys)) else none
  | .Sub, .int i, .int j => some (.val (.int (i - j)))
  | .Mult, .int i, .int j => if (-(2 ^ 64) < i ∧ i < 2 ^ 64) ∨ (-(2 ^ 64) < j ∧ j < 2 ^ 64) then some (.val (.int (i * j))) else none
  | .Mult, .lst xs, .int k => if 0 ≤ k ∧ k ≤ 1000 ∧ xs.length * k.toNat ≤ big then some (.new (List.replicate k.toNat xs).flatten) else none
  | .FloorDiv, .int i, .int j => if 0 < j ∧ j < 1073741824 then some (.val (.int (i / j))) else none
  | .Mod, .int i, .int j => if 0 < j then some (.val (.int (i % j))) else none
  | .Pow, .int i, .int j => if 0 ≤ j ∧ j ≤ 1000000 ∧ i.natAbs < 2 ^ 64 then some (.val (.int (i ^ j.toNat))) else none
  | _, _, _ => none

mutual
def D.py : D → PyData
  | .non => .none
  | .bl b => .bool b
  | .int i => .int i
  | .str x => .str x
  | .lst xs => .list (pys xs)
  | .rol xs => .list (pys xs)
  | .tup xs => .tuple (pys xs)
  | .dct kvs => .dict (pyk kvs)
  | .obj _ _ => .none
def pys : List D → List PyData
  | [] => []
  | d :: ds => d.py :: pys ds
def pyk : List (Key × D) → List (PyData × PyData)
  | [] => []
  | (.inl i, d) :: ds => (.int i, d.py) :: pyk ds
  | (.inr x, d) :: ds => (.str x, d.py) :: pyk ds
end
mutual
/-- none, asBls, asInts, texts, lists and tuples of such: what == is known of -/
def D.eqOk : D → Bool
  | .non => true
  | .bl _ => true
  | .int _ => true
  | .str _ => true
  | .lst xs => eqOks xs
  | .rol xs => eqOks xs
  | .tup xs => eqOks xs
  | .dct _ => false
  | .obj _ _ => false
def eqOks : List D → Bool
  | [] => true
  | d :: ds => d.eqOk && eqOks ds
end
mutual
/-- the same and dicts: what repr is known of -/
def D.shOk : D → Bool
  | .non => true
  | .bl _ => true
  | .int _ => true
  | .str _ => true
  | .lst xs => shOks xs
  | .rol xs => shOks xs
  | .tup xs => shOks xs
  | .dct kvs => shOkk kvs
  | .obj _ _ => false
def shOks : List D → Bool
  | [] => true
  | d :: ds => d.shOk && shOks ds
def shOkk : List (Key × D) → Bool
  | [] => true
  | (_, d) :: ds => d.shOk && shOkk ds
end
/-- one that has no parts, as HandS's flatV -/
def D.flat : D → Option V
  | .non => some .non
  | .bl b => some (.bl b)
  | .int i => some (.int i)
  | .str x => some (.str x)
  | _ => none
def flats : List D → Option (List V)
  | [] => some []
  | d :: ds => match d.flat, flats ds with
    | some v, some vs => some (v :: vs)
    | _, _ => none
def eqD (x y : D) : Option Bool := if x.eqOk && y.eqOk && SeqAt.shaped x.py && SeqAt.shaped y.py then some (PyData.eqv x.py y.py) else none
def inD (x : D) (ys : List D) : Option Bool := match x.flat, flats ys with
  | some v, some vs => some (inV v vs)
  | _, _ => none
def cmpD : CmpOp → D → D → Option Bool
  | .Lt, .int i, .int j => some (decide (i < j))
  | .LtE, .int i, .int j => some (decide (i ≤ j))
  | .Gt, .int i, .int j => some (decide (j < i))
  | .GtE, .int i, .int j => some (decide (j ≤ i))
  | .Eq, x, y => eqD x y
  | .NotEq, x, y => (eqD x y).map (!·)
  | .In, x, .lst ys => inD x ys
  | .In, x, .tup ys => inD x ys
  | .NotIn, x, .lst ys => (inD x ys).map (!·)
  | .NotIn, x, .tup ys => (inD x ys).map (!·)
  | .Is, .bl b, .bl c => some (decide (b = c))
  | .Is, .non, .non => some true
  | .Is, .bl _, .non => some false
  | .Is, .int _, .non => some false
  | .Is, .str _, .non => some false
  | .Is, .lst _, .non => some false
  | _, _, _ => none
def truD : D → Option Bool
  | .bl b => some b
  | _ => none
def ixD : D → D → Option D
  | .lst xs, .int i => atI xs i
  | .rol xs, .int i => atI xs i
  | .tup xs, .int i => atI xs i
  | .str x, .int i => if x.length ≤ big then (atI x.cps.toList i).map fun c => .str ⟨#[c]⟩ else none
  | _, _ => none
def cutD (xs : List D) (lo hi : Option Int) : List D := (xs.drop (HT.sIx xs.length 0 lo)).take (HT.sIx xs.length xs.length hi - HT.sIx xs.length 0 lo)
def slD : D → Option Int → Option Int → Option RD
  | .lst xs, lo, hi => some (.new (cutD xs lo hi))
  | _, _, _ => none
def asInts : List D → Option (List Int)
  | [] => some []
  | .int i :: ds => (asInts ds).map (i :: ·)
  | _ :: _ => none
def asBls : List D → Option (List Bool)
  | [] => some []
  | .bl i :: ds => (asBls ds).map (i :: ·)
  | _ :: _ => none
/-- the greatest, the least of some asInts -/
def maxI : List Int → Int
  | [] => 0
  | [x] => x
  | x :: y :: r => if x < maxI (y :: r) then maxI (y :: r) else x
def minI : List Int → Int
  | [] => 0
  | [x] => x
  | x :: y :: r => if minI (y :: r) < x then minI (y :: r) else x
def insI (x : Int) : List Int → List Int
  | [] => [x]
  | y :: ys => if x < y then x :: y :: ys else if x = y then y :: ys else y :: insI x ys
/-- ascending, each once -/
def srtI (xs : List Int) : List Int := xs.foldl (fun acc x => insI x acc) []
def shD (d : D) : Option D := if d.shOk && d.py.showable && decide (d.py.shown.length ≤ big) && decide (d.py.depth ≤ 64) then some (.str d.py.shown) else none
def biD : Bi → List D → Option RD
  | .len, [.lst xs] => some (.val (.int xs.length))
  | .len, [.rol xs] => some (.val (.int xs.length))
  | .len, [.tup xs] => some (.val (.int xs.length))
  | .abs, [.int i] => some (.val (.int (if i < 0 then -i else i)))
  | .max, [.int i, .int j] => some (.val (.int (if j > i then j else i)))
  | .min, [.int i, .int j] => some (.val (.int (if j < i then j else i)))
  | .max, [.lst xs] => match asInts xs with
    | some (n :: ns) => some (.val (.int (maxI (n :: ns))))
    | _ => none
  | .min, [.lst xs] => match asInts xs with
    | some (n :: ns) => some (.val (.int (minI (n :: ns))))
    | _ => none
  | .int, [.int i] => some (.val (.int i))
  | .int, [.bl b] => some (.val (.int (if b then 1 else 0)))
  | .divmod, [.int i, .int j] => if 0 < j ∧ j < 1073741824 then some (.val (.tup [.int (i / j), .int (i % j)])) else none
  | .repr, [d] => (shD d).map .val
  | .all, [.lst xs] => (asBls xs).map fun bs => .val (.bl (bs.all id))
  | .any, [.lst xs] => (asBls xs).map fun bs => .val (.bl (bs.any id))
  | .tuple, [.lst xs] => some (.val (.tup xs))
  | .list, [.lst xs] => some (.new xs)
  | .list, [.tup xs] => some (.new xs)
  | _, _ => none
def tyN : D → Option String
  | .non => some "NoneType"
  | .bl _ => some "bool"
  | .int _ => some "int"
  | .str _ => some "str"
  | .lst _ => some "list"
  | .tup _ => some "tuple"
  | .dct _ => some "dict"
  | _ => none
def isiD (d : D) (t : String) : Option Bool := (tyN d).bind fun n => kitB n t
def isiDs (d : D) : List String → Option Bool
  | [] => some false
  | t :: ts => match isiD d t with
    | some true => some true
    | some false => isiDs d ts
    | none => none

/-! ## the evaluator -/
inductive EO where
  | ok (r : R) (δ : List Sl) | exc (c : Nat) (d : D) (δ : List Sl)
inductive EA where
  | ok (rs : List R) (δ : List Sl) | exc (c : Nat) (d : D) (δ : List Sl)
/-- what a def gives back: and what became of its arguments -/
inductive CO where
  | ret (r : RD) (ps : List Sl) | exc (c : Nat) (d : D) (ps : List Sl)

/-- what was given becomes a value that stays -/
def frz (δ : List Sl) : R → Option (D × List Sl)
  | .val d => some (d, δ)
  | .new xs => some (.lst xs, δ)
  | .bor i => match δ[i]? with
    | some (.val d) => some (d, δ)
    | some (.own xs) => some (.lst xs, δ.set i (.val (.lst xs)))
    | _ => none
def frzs (δ : List Sl) : List R → Option (List D × List Sl)
  | [] => some ([], δ)
  | r :: rs => match frz δ r with
    | some (d, δ1) => match frzs δ1 rs with
      | some (ds, δ2) => some (d :: ds, δ2)
      | none => none
    | none => none
def sees (δ : List Sl) : List R → Option (List D)
  | [] => some []
  | r :: rs => match r.see δ, sees δ rs with
    | some d, some ds => some (d :: ds)
    | _, _ => none
def argSl (δ : List Sl) : R → Option Sl
  | .val d => some (.val d)
  | .new xs => some (.own xs)
  | .bor i => match δ[i]? with
    | some (.val d) => some (.val d)
    | some (.own xs) => some (.own xs)
    | some (.lock xs) => some (.lock xs)
    | _ => none
def argSls (δ : List Sl) : List R → Option (List Sl)
  | [] => some []
  | r :: rs => match argSl δ r, argSls δ rs with
    | some d, some ds => some (d :: ds)
    | _, _ => none
def bors : List R → List Nat
  | [] => []
  | .bor i :: rs => i :: bors rs
  | _ :: rs => bors rs
def wb (δ : List Sl) : List R → List Sl → List Sl
  | .bor i :: rs, s :: ss => wb (δ.set i s) rs ss
  | _ :: rs, _ :: ss => wb δ rs ss
  | _, _ => δ
def callD (cf : Nat → List Sl → Option CO) (f : Nat) (rs : List R) (δ : List Sl) : Option EO :=
  match argSls δ rs with
  | some as => if (bors rs).Nodup then match cf f as with
      | some (.ret r ps) => some (.ok r.r (wb δ rs ps))
      | some (.exc c d ps) => some (.exc c d (wb δ rs ps))
      | none => none
    else none
  | none => none
/-- xs.append(d), xs.insert(i, d) of a slot's own list -/
def apD (i : Nat) (r : R) (δ : List Sl) : Option EO := match frz δ r with
  | some (d, δ1) => match δ1[i]? with
    | some (.own xs) => if xs.length < big then some (.ok (.val .non) (δ1.set i (.own (xs ++ [d])))) else none
    | _ => none
  | none => none
def inD1 (i : Nat) (k r : R) (δ : List Sl) : Option EO := match k.see δ, frz δ r with
  | some (.int j), some (d, δ1) => match δ1[i]? with
    | some (.own xs) => if 0 ≤ j ∧ j ≤ xs.length ∧ xs.length < big then some (.ok (.val .non) (δ1.set i (.own (xs.take j.toNat ++ [d] ++ xs.drop j.toNat)))) else none
    | _ => none
  | _, _ => none
def keyD : D → Option Key
  | .int i => some (Sum.inl i)
  | .str s => some (Sum.inr s)
  | _ => none
def putD (kvs : List (Key × D)) (k : Key) (d : D) : List (Key × D) :=
  if (kvs.any fun kv => decide (kv.1 = k)) = true then kvs.map (fun kv => if kv.1 = k then (kv.1, d) else kv) else kvs ++ [(k, d)]
def gtD (r k x : R) (δ : List Sl) : Option EO := match r.see δ, (k.see δ).bind keyD with
  | some (.dct kvs), some key => match (kvs.find? fun kv => decide (kv.1 = key)) with
    | some kv => some (.ok (.val kv.2) δ)
    | none => match frz δ x with
      | some (d, δ1) => some (.ok (.val d) δ1)
      | none => none
  | _, _ => none
def meD : Me → R → List R → List Sl → Option EO
  | .append, .bor i, [r], δ => apD i r δ
  | .insert, .bor i, [k, r], δ => inD1 i k r δ
  | .get, r, [k, x], δ => gtD r k x δ
  | _, _, _, _ => none
/-- what the method is of -/
def recv : Me → R → List Sl → Bool
  | .get, r, δ => match r.see δ with
    | some (.dct _) => true
    | _ => false
  | _, .bor i, δ => match δ[i]? with
    | some (.own _) => true
    | some (.lock _) => true
    | _ => false
  | _, _, _ => false
/-- one after the other: what a comprehension makes -/
def lcL (fe : List Sl → Option EO) (fc : List Sl → Option (Bool × List Sl)) (x : Nat) : List D → List Sl → List D → Option (List D × List Sl)
  | [], δ, acc => some (acc, δ)
  | d :: ds, δ, acc => match fc (δ.set x (.val d)) with
    | some (true, δ1) => match fe δ1 with
      | some (.ok r δ2) => match frz δ2 r with
        | some (e, δ3) => if acc.length < big then lcL fe fc x ds δ3 (acc ++ [e]) else none
        | none => none
      | _ => none
    | some (false, δ1) => lcL fe fc x ds δ1 acc
    | none => none
/-- the slot of a list that is walked is locked meanwhile -/
def lockS (δ : List Sl) : R → Option (List D × List Sl × Option (Nat × Sl))
  | .val (.lst xs) => some (xs, δ, none)
  | .val (.rol xs) => some (xs, δ, none)
  | .val (.tup xs) => some (xs, δ, none)
  | .new xs => some (xs, δ, none)
  | .bor i => match δ[i]? with
    | some (.own xs) => some (xs, δ.set i (.lock xs), some (i, .own xs))
    | some (.lock xs) => some (xs, δ, none)
    | some (.val (.lst xs)) => some (xs, δ, none)
    | some (.val (.tup xs)) => some (xs, δ, none)
    | _ => none
  | _ => none
def unlockS (δ : List Sl) : Option (Nat × Sl) → List Sl
  | none => δ
  | some (i, s) => δ.set i s
def rngD (lo : Int) (n : Nat) : List D := (List.range n).map fun i => D.int (lo + (i : Nat))

def isAnd : BoolOp → Bool
  | .And => true
  | .Or => false
mutual
/-- no conditional expression as a test -/
def nIf : E → Bool
  | .ife _ _ _ _ => false
  | .nt a _ => nIf a
  | .bop _ es _ => nIfs es
  | _ => true
def nIfs : Es → Bool
  | .nil => true
  | .cons e es => nIf e && nIfs es
end
section
variable (cf : Nat → List Sl → Option CO) (tf : EO → Option EO) (gd : List D)
mutual
def evE : E → List Sl → Option EO
  | .var i _, δ => match δ[i]? with
    | some (.val d) => some (.ok (.val d) δ)
    | some (.own _) => some (.ok (.bor i) δ)
    | some (.lock _) => some (.ok (.bor i) δ)
    | _ => none
  | .con c _ _, δ => match c with
    | .int i => some (.ok (.val (.int i)) δ)
    | .str x => some (.ok (.val (.str x)) δ)
    | .bool b => some (.ok (.val (.bl b)) δ)
    | .none => some (.ok (.val .non) δ)
    | _ => none
  | .glo g _, δ => match gd[g]? with
    | some d => some (.ok (.val d) δ)
    | none => none
  | .bin op a b _, δ => match evE a δ with
    | some (.ok ra δ1) => match evE b δ1 with
      | some (.ok rb δ2) => match ra.see δ2, rb.see δ2 with
        | some x, some y => match binD op x y with
          | some r => some (.ok r.r δ2)
          | none => none
        | _, _ => none
      | _ => none
    | _ => none
  | .neg a _, δ => match evE a δ with
    | some (.ok ra δ1) => match ra.see δ1 with
      | some (.int i) => some (.ok (.val (.int (-i))) δ1)
      | _ => none
    | _ => none
  | .nt a _, δ => match evE a δ with
    | some (.ok ra δ1) => match ra.see δ1 with
      | some (.bl b) => some (.ok (.val (.bl (!b))) δ1)
      | _ => none
    | _ => none
  | .bop op es _, δ => evB op es δ
  | .cmp op a b _, δ => match evE a δ with
    | some (.ok ra δ1) => match evE b δ1 with
      | some (.ok rb δ2) => match ra.see δ2, rb.see δ2 with
        | some x, some y => match cmpD op x y with
          | some r => some (.ok (.val (.bl r)) δ2)
          | none => none
        | _, _ => none
      | _ => none
    | _ => none
  | .ife c a b _, δ => if nIf c then match evE c δ with
      | some (.ok rc δ1) => match (rc.see δ1).bind truD with
        | some true => evE a δ1
        | some false => evE b δ1
        | none => none
      | _ => none
    else none
  | .lst es _, δ => match evEs es δ with
    | some (.ok rs δ1) => match frzs δ1 rs with
      | some (ds, δ2) => if ds.length ≤ big then some (.ok (.new ds) δ2) else none
      | none => none
    | some (.exc c d δ1) => some (.exc c d δ1)
    | none => none
  | .tup es _ _, δ => match evEs es δ with
    | some (.ok rs δ1) => match frzs δ1 rs with
      | some (ds, δ2) => if ds.length ≤ big then some (.ok (.val (.tup ds)) δ2) else none
      | none => none
    | some (.exc c d δ1) => some (.exc c d δ1)
    | none => none
  | .dis kvs _, δ => match evP kvs δ with
    | some (kvs, δ1) => if kvs.length ≤ 15 then some (.ok (.val (.dct (kvs.foldl (fun acc kv => putD acc kv.1 kv.2) []))) δ1) else none
    | none => none
  | .idx a b _, δ => match evE a δ with
    | some (.ok ra δ1) => match evE b δ1 with
      | some (.ok rb δ2) => match ra.see δ2, rb.see δ2 with
        | some x, some y => match ixD x y with
          | some r => some (.ok (.val r) δ2)
          | none => none
        | _, _ => none
      | _ => none
    | _ => none
  | .sli a lo hi _ _, δ => match evE a δ with
    | some (.ok ra δ1) => match evO lo δ1 with
      | some (l, δ2) => match evO hi δ2 with
        | some (h, δ3) => match ra.see δ3 with
          | some x => match slD x l h with
            | some r => some (.ok r.r δ3)
            | none => none
          | none => none
        | none => none
      | none => none
    | _ => none
  | .rev a _ _ _ _ _, δ => match evE a δ with
    | some (.ok ra δ1) => match ra.see δ1 with
      | some (.lst xs) => some (.ok (.new xs.reverse) δ1)
      | _ => none
    | _ => none
  | .call f _ es _, δ => match evEs es δ with
    | some (.ok rs δ1) => callD cf f rs δ1
    | some (.exc c d δ1) => some (.exc c d δ1)
    | none => none
  | .callk f _ _ es _, δ => match evEs es δ with
    | some (.ok rs δ1) => callD cf f rs δ1
    | _ => none
  | .bi b _ es _, δ => match evEs es δ with
    | some (.ok rs δ1) => match sees δ1 rs with
      | some ds => match biD b ds with
        | some r => some (.ok r.r δ1)
        | none => none
      | none => none
    | _ => none
  | .isi a t _ _ _, δ => match evE a δ with
    | some (.ok ra δ1) => match (ra.see δ1).bind fun d => isiD d t with
      | some b => some (.ok (.val (.bl b)) δ1)
      | none => none
    | _ => none
  | .isiT a ts _ _ _ _, δ => if ts.length ≤ big ∧ ts ≠ [] then match evE a δ with
      | some (.ok ra δ1) => match (ra.see δ1).bind fun d => isiDs d (ts.map (·.1)) with
        | some b => some (.ok (.val (.bl b)) δ1)
        | none => none
      | _ => none
    else none
  | .me m o _ es _, δ => match evE o δ with
    | some (.ok ro δ1) => if recv m ro δ1 then match evEs es δ1 with
        | some (.ok rs δ2) => meD m ro rs δ2
        | _ => none
      else none
    | _ => none
  | .lc elt x _ it c _ _, δ => match evI it δ with
    | some (xs, δ1, lk) => match lcL (fun δ => evE elt δ) (fun δ => evC c δ) x xs (δ1.set x .un) [] with
      | some (ys, δ2) => match δ1[x]? with
        | some (.lock _) => none
        | some s => some (.ok (.new ys) (unlockS (δ2.set x s) lk))
        | none => none
      | none => none
    | none => none
  | .srt _ elt x _ it c _ _ _, δ => match evI it δ with
    | some (xs, δ1, lk) => match lcL (fun δ => evE elt δ) (fun δ => evC c δ) x xs (δ1.set x .un) [] with
      | some (ys, δ2) => match δ1[x]?, asInts ys with
        | some (.lock _), _ => none
        | some s, some ns => if ns.length < 64 then some (.ok (.new ((srtI ns).map D.int)) (unlockS (δ2.set x s) lk)) else none
        | _, _ => none
      | none => none
    | none => none
  | .srs _ _ e _ _, δ => match evE e δ with
    | some (.ok r δ1) => match r.see δ1 with
      | some (.lst xs) => match asInts xs with
        | some ns => if ns.length < 64 then some (.ok (.new ((srtI ns).map D.int)) δ1) else none
        | none => none
      | _ => none
    | _ => none
  | .told _ _ body _ _ _ _, δ => match evE body δ with
    | some o => tf o
    | none => none
def evEs : Es → List Sl → Option EA
  | .nil, δ => some (.ok [] δ)
  | .cons e es, δ => match evE e δ with
    | some (.ok r δ1) => match evEs es δ1 with
      | some (.ok rs δ2) => some (.ok (r :: rs) δ2)
      | some (.exc c d δ2) => some (.exc c d δ2)
      | none => none
    | some (.exc c d δ1) => some (.exc c d δ1)
    | none => none
def evB (op : BoolOp) : Es → List Sl → Option EO
  | .nil, _ => none
  | .cons e .nil, δ => evE e δ
  | .cons e es, δ => match evE e δ with
    | some (.ok r δ1) => match r.see δ1 with
      | some (.bl b) => if b = isAnd op then evB op es δ1 else some (.ok (.val (.bl b)) δ1)
      | _ => none
    | _ => none
/-- the test of a comprehension: none or one -/
def evC : Es → List Sl → Option (Bool × List Sl)
  | .nil, δ => some (true, δ)
  | .cons e .nil, δ => if nIf e then match evE e δ with
      | some (.ok r δ1) => match (r.see δ1).bind truD with
        | some b => some (b, δ1)
        | none => none
      | _ => none
    else none
  | _, _ => none
def evO : Option E → List Sl → Option (Option Int × List Sl)
  | none, δ => some (none, δ)
  | some e, δ => match evE e δ with
    | some (.ok r δ1) => match r.see δ1 with
      | some (.int i) => some (some i, δ1)
      | _ => none
    | _ => none
def evP : Ps → List Sl → Option (List (Key × D) × List Sl)
  | .nil, δ => some ([], δ)
  | .cons k v ps, δ => match evE k δ with
    | some (.ok rk δ1) => match evE v δ1 with
      | some (.ok rv δ2) => match rk.see δ2, frz δ2 rv with
        | some (.int i), some (d, δ3) => match evP ps δ3 with
          | some (kvs, δ4) => some ((.inl i, d) :: kvs, δ4)
          | none => none
        | some (.str i), some (d, δ3) => match evP ps δ3 with
          | some (kvs, δ4) => some ((.inr i, d) :: kvs, δ4)
          | none => none
        | _, _ => none
      | _ => none
    | _ => none
def evI : It → List Sl → Option (List D × List Sl × Option (Nat × Sl))
  | .seq e, δ => match evE e δ with
    | some (.ok r δ1) => lockS δ1 r
    | _ => none
  | .rng1 _ e _, δ => match evE e δ with
    | some (.ok r δ1) => match r.see δ1 with
      | some (.int n) => if -(big : Int) ≤ n ∧ n ≤ big then some (rngD 0 n.toNat, δ1, none) else none
      | _ => none
    | _ => none
  | .rng2 _ a b _, δ => match evE a δ with
    | some (.ok ra δ1) => match evE b δ1 with
      | some (.ok rb δ2) => match ra.see δ2, rb.see δ2 with
        | some (.int i), some (.int j) => if -(big : Int) ≤ i ∧ i ≤ big ∧ -(big : Int) ≤ j ∧ j ≤ big then some (rngD i (j - i).toNat, δ2, none) else none
        | _, _ => none
      | _ => none
    | _ => none
end
/-! ### statements -/
inductive SO where
  | nx (δ : List Sl) | rt (r : RD) (δ : List Sl) | ex (c : Nat) (d : D) (δ : List Sl)

/-- a slot of the def's own -/
abbrev Loc (np : Nat × Nat) (i : Nat) : Prop := np.1 ≤ i ∧ i < np.2
def asgS (np : Nat × Nat) (i : Nat) (s : Sl) (δ : List Sl) : Option (List Sl) := if Loc np i then match δ[i]? with
    | some (.lock _) => none
    | some _ => some (δ.set i s)
    | none => none
  else none
def asgR (np : Nat × Nat) (i : Nat) (r : R) (δ : List Sl) : Option (List Sl) := match r with
  | .new xs => asgS np i (.own xs) δ
  | r => match frz δ r with
    | some (d, δ1) => asgS np i (.val d) δ1
    | none => none
def setD (r k v : R) (δ : List Sl) : Option (List Sl) := match r with
  | .bor i => match frz δ v with
    | some (d, δ1) => match δ1[i]?, k.see δ1 with
      | some (.own xs), some (.int j) => match ixN xs.length j with
        | some n => some (δ1.set i (.own (xs.set n d)))
        | none => none
      | _, _ => none
    | none => none
  | _ => none
def asgT (np : Nat × Nat) (t : Tg) (d : D) (δ : List Sl) : Option (List Sl) := match t with
  | .nm i _ => asgS np i (.val d) δ
  | .sub o i _ => match evE cf tf gd o δ with
    | some (.ok ro δ1) => match evE cf tf gd i δ1 with
      | some (.ok ri δ2) => setD ro ri (.val d) δ2
      | _ => none
    | _ => none
def frL (np : Nat × Nat) (fb : List Sl → Option SO) (x : Nat) : List D → List Sl → Option SO
  | [], δ => some (.nx δ)
  | d :: ds, δ => match asgS np x (.val d) δ with
    | some δ1 => match fb δ1 with
      | some (.nx δ2) => frL np fb x ds δ2
      | o => o
    | none => none
def unlockO (lk : Option (Nat × Sl)) : SO → SO
  | .nx δ => .nx (unlockS δ lk)
  | .rt r δ => .rt r (unlockS δ lk)
  | .ex c d δ => .ex c d (unlockS δ lk)
def retR (np : Nat × Nat) (r : R) (δ : List Sl) : Option SO := match r with
  | .val d => some (.rt (.val d) δ)
  | .new xs => some (.rt (.new xs) δ)
  | .bor i => match δ[i]? with
    | some (.own xs) => if Loc np i then some (.rt (.new xs) (δ.set i .un)) else some (.rt (.val (.lst xs)) (δ.set i (.val (.lst xs))))
    | _ => none
mutual
def evS (np : Nat × Nat) : S → List Sl → Option SO
  | .asg i _ e _, δ => match evE cf tf gd e δ with
    | some (.ok r δ1) => match asgR np i r δ1 with
      | some δ2 => some (.nx δ2)
      | none => none
    | some (.exc c d δ1) => some (.ex c d δ1)
    | none => none
  | .par i j _ _ _ _ a b _ _ _, δ => match evEs cf tf gd (.cons a (.cons b .nil)) δ with
    | some (.ok rs δ1) => match frzs δ1 rs with
      | some ([x, y], δ2) => match asgS np i (.val x) δ2 with
        | some δ3 => match asgS np j (.val y) δ3 with
          | some δ4 => some (.nx δ4)
          | none => none
        | none => none
      | _ => none
    | _ => none
  | .unp t1 t2 _ _ e _, δ => match evE cf tf gd e δ with
    | some (.ok r δ1) => match frz δ1 r with
      | some (.tup [x, y], δ2) => match asgT cf tf gd np t1 x δ2 with
        | some δ3 => match asgT cf tf gd np t2 y δ3 with
          | some δ4 => some (.nx δ4)
          | none => none
        | none => none
      | _ => none
    | _ => none
  | .sub o i _ e _, δ => match evE cf tf gd e δ with
    | some (.ok r δ1) => match evE cf tf gd o δ1 with
      | some (.ok ro δ2) => match evE cf tf gd i δ2 with
        | some (.ok ri δ3) => match setD ro ri r δ3 with
          | some δ4 => some (.nx δ4)
          | none => none
        | _ => none
      | _ => none
    | _ => none
  | .exp e _, δ => match evE cf tf gd e δ with
    | some (.ok _ δ1) => some (.nx δ1)
    | some (.exc c d δ1) => some (.ex c d δ1)
    | none => none
  | .ret e _, δ => match evE cf tf gd e δ with
    | some (.ok r δ1) => retR np r δ1
    | some (.exc c d δ1) => some (.ex c d δ1)
    | none => none
  | .iff c a b _, δ => if nIf c then match evE cf tf gd c δ with
      | some (.ok r δ1) => match (r.see δ1).bind truD with
        | some true => evSs np a δ1
        | some false => evSs np b δ1
        | none => none
      | _ => none
    else none
  | .fr x _ it b _, δ => match evI cf tf gd it δ with
    | some (xs, δ1, lk) => match frL np (fun δ => evSs np b δ) x xs δ1 with
      | some o => some (unlockO lk o)
      | none => none
    | none => none
  | .raise c _ e _ _, δ => match evE cf tf gd e δ with
    | some (.ok r δ1) => match frz δ1 r with
      | some (d, δ2) => some (.ex c d δ2)
      | none => none
    | _ => none
def evSs (np : Nat × Nat) : Ss → List Sl → Option SO
  | .nil, δ => some (.nx δ)
  | .cons s ss, δ => match evS np s δ with
    | some (.nx δ1) => evSs np ss δ1
    | o => o
end
/-! ### a def -/
structure Fn where
  np : Nat
  ns : Nat
  star : Bool
  body : Ss
/-- what became of the arguments: values stay -/
def backA : List Sl → List Sl → List Sl
  | .val d :: as, _ :: δ => .val d :: backA as δ
  | .un :: as, _ :: δ => .un :: backA as δ
  | _ :: as, s :: δ => s :: backA as δ
  | as, _ => as
/-- what comes out at a def's end -/
def endF (as : List Sl) : Option SO → Option CO
  | some (.nx δ) => some (.ret (.val .non) (backA as δ))
  | some (.rt r δ) => some (.ret r (backA as δ))
  | some (.ex c d δ) => some (.exc c d (backA as δ))
  | none => none
end
def vals : List Sl → Option (List D)
  | [] => some []
  | .val d :: ss => (vals ss).map (d :: ·)
  | _ :: _ => none
/-- what is told of an action: its value, or the error's tag and value -/
def tell (tags : Nat → Option Str) : EO → Option EO
  | .ok r δ => match frz δ r with
    | some (d, δ1) => (shD (.lst [.str "done", d])).map fun x => .ok (.val x) δ1
    | none => none
  | .exc c d δ => match tags c with
    | some t => (shD (.lst [.str t, d, .bl true])).map fun x => .ok (.val x) δ
    | none => none
section
variable (fns : List (Option Fn)) (tf : EO → Option EO) (gd : List D)
def run : Nat → Nat → List Sl → Option CO
  | 0, _, _ => none
  | k + 1, f, as => match fns[f]? with
    | some (some F) =>
      if F.star then match vals as with
        | some ds => if ds.length ≤ big then match evSs (run k) tf gd (F.np, F.ns) F.body (.val (.tup ds) :: List.replicate (F.ns - 1) .un) with
            | some (.nx _) => some (.ret (.val .non) as)
            | some (.rt r _) => some (.ret r as)
            | some (.ex c d _) => some (.exc c d as)
            | none => none
          else none
        | none => none
      else if as.length = F.np then endF as (evSs (run k) tf gd (F.np, F.ns) F.body (as ++ List.replicate (F.ns - F.np) .un)) else none
    | _ => none
end
end Mn

-- Mn2b
set_option Elab.async false
set_option linter.all false
set_option maxRecDepth 100000
set_option maxHeartbeats 2000000
set_option autoImplicit false
namespace Mn
open PySem PySem.Spec L2

/-! ### a comprehension that fills a set -/
/-- a kind of sets: what is tracked of one, the empty one, what add makes of it -/
structure SKit (P : Program) (w : World) (ι : Type) where
  obj : Addr → ι → HO
  nil : ι
  add : ι → V → ι → Prop
  new : ∀ (H : Hp) (h : Heap), ObjOk P w H (h.push { cls := .type "set", dict := none, data := .set #[] 0 (.fresh 0 0 (!w.params.followText "set-order")) }) h.objs.size (obj h.objs.size nil)
  put : ∀ {Y : Cx} {pins : List (Addr × Obj)} {σ : L2.St} {H : Hp} {s : Shared} {D : Addr} {i j : ι} {v : V} {u : Value} {E : Value → Shared → Prop} {Q : Value → Shared → Prop}, Y.prog = P → Y.w = w → L2.Inv Y pins σ H s → H D = some (obj D i) → add i v j → RelV v u →
    (∀ s', L2.Inv Y pins σ (upd H D (obj D j)) s' → Q .none s') → wpAny (model Y.prog Y.w) Y.A (call (.builtin "set.add") [.ref D, u]) Q E s

/-- the reading -/
def tSK {P : Program} {w : World} {ι : Type} (k : SKit P w ι) (wi : TI) (g : TG) (tt : TT) (te : TE) (vs : List Nat) : TE := fun σ H Q => wi σ H fun J H1 => ∀ D, H1 D = none → ∃ Z : Nat → Nat → Hp → Prop, (∃ m, Z 0 m (upd H1 D (k.obj D k.nil))) ∧ ∀ i m H, Z i m H →
  (J.stop i H ∧ Q (.ref D) H) ∨ (J.go i H ∧ ∃ Nx : Hp → Prop, (∀ H', Nx H' → ∃ m', m' < m ∧ Z (i + 1) m' H') ∧ ∀ x H', J.yld i H x H' → g x (wipe σ vs) H' fun σ2 H2 => wipe σ2 vs = wipe σ vs ∧ tt σ2 H2 fun b H3 =>
    if b = true then te σ2 H3 fun y H4 => ∃ a b, H4 D = some (k.obj D a) ∧ k.add a y b ∧ Nx (upd H4 D (k.obj D b)) else Nx H3)

section
variable {X : Cx} {ι : Type} {k : SKit X.prog X.w ι}
theorem pe_sk {elt tg iter : Expr} {ifs : List Expr} {sc : Scope} {own : List (Str × Nat)} {pos : Pos} {wi : TI} {g : TG} {tt : TT} {te : TE} (hc : X.calm = true) (hN : X.N.Nodup) (hi : PI X tg iter wi) (ok : BlkOk X.N X.env.scope sc own)
    (hg : ∀ (s : Shared) (H : Hp) (C : Addr) (cl : List (Str × Addr)) (fp : List Addr), PG (X.blk s H sc (compEnvC sc cl C X.env) fp) tg g)
    (ht : ∀ (s : Shared) (H : Hp) (C : Addr) (cl : List (Str × Addr)) (fp : List Addr), PTs (X.blk s H sc (compEnvC sc cl C X.env) fp) ifs tt)
    (he : ∀ (s : Shared) (H : Hp) (C : Addr) (cl : List (Str × Addr)) (fp : List Addr), PE (X.blk s H sc (compEnvC sc cl C X.env) fp) elt te) (hs : ∀ x, foldedSetIterable iter X.env x = pure x) :
    PE X (.SetComp elt [⟨tg, iter, ifs, 0⟩] sc pos) (tSK k wi g tt te (own.map (·.2))) := by
  refine ⟨fun pins s σ H Q I read => ?_⟩
  rw [PpSet.eval_SetComp]
  have clo : ∀ y ∈ sc.names, y.2 = .free → ∃ c, X.env.cells.lookup y.1 = some c := fun y hy e =>
    (ok.free y hy e).elim (fun z => I.ok.has _ (.inl z)) fun z => I.ok.has _ (.inr z)
  refine wpAny_comprehension_free (use := none) rfl hs (closure_ok clo) ok.kind (fun y hy e => by rw [ok.uniq y hy, e]) (thn (hi.run pins s σ H _ I read) fun xv s1 hx => thn hx fun itv s2 h2 => ?_)
  obtain ⟨it, fp, tn, J, Ha, rfl, Ia, T, ta, fa, q⟩ := h2
  refine PpSet.newSet_ok (newEnv_comp ?_)
  generalize eD : s2.heap.objs.size = D
  have freeD : Ha D = none := Ia.hok.fresh (Nat.le_of_eq eD)
  obtain ⟨Z, ⟨m0, z0⟩, turn⟩ := q D freeD
  generalize eb : ({ s2 with heap := s2.heap.push { cls := .type "set", dict := none, data := .set #[] 0 (.fresh 0 0 (!X.w.params.followText "set-order")) } } : Shared) = sb
  have Ib : L2.Inv X pins σ (upd Ha D (k.obj D k.nil)) sb := by
    subst eb
    subst eD
    exact Ia.laid (t' := s2.toks) (fun b o e => Heap.get?_push_of_some _ e) (Nat.le_refl _) (k.new _ _)
  have hb : sb.heap = s2.heap.push { cls := .type "set", dict := none, data := .set #[] 0 (.fresh 0 0 (!X.w.params.followText "set-order")) } := by rw [← eb]
  have fb : ∀ b ∈ fp, FpOk X pins (upd Ha D (k.obj D k.nil)) b ∧ b < sb.heap.objs.size := fun b hm => by
    obtain ⟨o, e, _⟩ := T.obj _ _ ta b hm
    have lt := Heap.lt_size e
    refine ⟨⟨?_, (fa b hm).2⟩, by rw [hb, Heap.size_push]; exact Nat.lt_succ_of_lt lt⟩
    rw [upd_ne (by rw [← eD]; exact Nat.ne_of_lt lt)]
    exact (fa b hm).1
  have tb : tn 0 sb.heap := T.keep _ _ _ ta fun b _ o e => by rw [hb]; exact Heap.get?_push_of_some _ e
  have Ic := block_start Ib ok hN fb
  generalize eH : upd Ha D (k.obj D k.nil) = Hb at Ib Ic z0 fb
  generalize ecl : cellsFrom (sb.heap.objs.size + 1) sc.names (cloFrom X.env.cells sc.names []) = cl at Ic ⊢
  have pg := hg sb Hb sb.heap.objs.size cl fp
  have pt := ht sb Hb sb.heap.objs.size cl fp
  have pe := he sb Hb sb.heap.objs.size cl fp
  show codeAny _ _ (.compStart (.SetComp elt [⟨tg, iter, ifs, 0⟩] sc pos) 0 (.ref it) (.ref D) (compEnvC sc cl sb.heap.objs.size X.env)) (compPost (model X.prog X.w) X.A X.xe none (EP X pins σ Q) (.ref D) sb.heap.objs.size) { sb with heap := pushCells (sb.heap.push { cls := .type "dict", data := .dict #[] }) sc.names }
  generalize ece : compEnvC sc cl sb.heap.objs.size X.env = ce at Ic pg pt pe ⊢
  have cL : ce.locals = sb.heap.objs.size := by subst ece; rfl
  generalize ec : ({ sb with heap := pushCells (sb.heap.push { cls := .type "dict", data := .dict #[] }) sc.names } : Shared) = sd at Ic ⊢
  have td : tn 0 sd.heap := T.keep _ _ _ tb fun b _ o e => by rw [← ec]; exact pushCells_keeps _ _ _ _ (Heap.get?_push_of_some _ e)
  have stat : ∀ {σ' : L2.St} {H' : Hp} {s' : Shared}, L2.Inv (X.blk sb Hb sc ce fp) [] σ' H' s' → (∀ b ∈ fp, H' b = none) → ∀ b ∈ fp, FpOk (X.blk sb Hb sc ce fp) [] H' b := fun {σ' H' s'} I' hn b hm =>
    ⟨hn b hm, (I'.ok.exf b hm).1, I'.ok.exfs b hm, .inl hm, fun x c e => (I'.ok.exf b hm).2 x c e, fun p hp => absurd (show p ∈ ([] : List (Addr × Obj)) ++ [] from hp) (by simp)⟩
  have loop : codeAny (model X.prog X.w) X.A (.compLoop (.SetComp elt [⟨tg, iter, ifs, 0⟩] sc pos) 0 (.ref it) (.ref D) ce) (compPost (model X.prog X.w) X.A X.xe none (EP X pins σ Q) (.ref D) sb.heap.objs.size) sd := by
    refine PpSet.compLoopS_any (fun n s' => ∃ i H', L2.Inv (X.blk sb Hb sc ce fp) [] (wipe σ (own.map (·.2))) H' s' ∧ tn i s'.heap ∧ (∀ b ∈ fp, H' b = none) ∧ Z i n H') ?_ m0 ⟨0, Hb, Ic, td, fun b hm => (fb b hm).1.1, z0⟩
    rintro n se ⟨i, He, Ie, te', ne, ze⟩
    rcases turn i n He ze with ⟨stop, qq⟩ | ⟨go, Nx, hNx, step⟩
    · refine thnF (T.done (X.blk sb Hb sc ce fp) rfl rfl rfl hc i [] se _ He (fun _ _ => False) Ie (stat Ie ne) te' stop) fun r sf ⟨hr, If⟩ => ?_
      subst hr
      have Ig : L2.Inv X pins σ He sf := Ib.call' (ch := fp) If.os If.base If.hok If.bare fun b hm => ⟨(fb b hm).1.2.2.2.1, (fb b hm).1.2.1, (fb b hm).1.2.2.2.2.1, (fb b hm).1.2.2.2.2.2⟩
      have nC : He sb.heap.objs.size = none := by
        have z : He ce.locals = none := If.free
        rw [cL] at z
        exact z
      obtain ⟨m, hn, _⟩ := If.loc
      have hn : sf.heap.Ns ce.locals m := hn
      rw [cL] at hn
      obtain ⟨f0, f1, f2, f3, f4, f5⟩ := Ib.fpOk (Nat.le_refl _) nC
      exact ⟨m, hn, fun h'' sbt => ⟨.ref D, He, Ig.turned (t' := sf.toks) (fun b o hm e => (sbt.2 b hm).trans e) f0 f1 f3 f4 f5, rfl, qq⟩⟩
    · refine thnF (T.item (X.blk sb Hb sc ce fp) rfl rfl rfl hc i [] se _ He (fun _ _ => False) Ie (stat Ie ne) te' go) fun r sf ⟨u, hr, hf⟩ => ?_
      subst hr
      refine thnF hf fun _ sg ⟨x, Hg, Ig, rg, yg, tg', ng⟩ => ?_
      have Ig' := Ig.pinned (stat Ig ng) (T.obj _ _ tg')
      refine thnF (pg.run _ sg _ Hg x u _ Ig' rg (step x Hg yg)) fun _ sh ⟨σh, Hh, Ih, wh, qh⟩ => ?_
      refine thnF (pt.run _ sh σh Hh _ Ih qh) fun b sj ⟨Hj, Ij, qj⟩ => ?_
      have fin : ∀ {s' : Shared} {H' : Hp}, L2.Inv (X.blk sb Hb sc ce fp) ([] ++ pinsAt fp sg.heap) σh H' s' → Nx H' →
          ∃ m, m < n ∧ ∃ i H', L2.Inv (X.blk sb Hb sc ce fp) [] (wipe σ (own.map (·.2))) H' s' ∧ tn i s'.heap ∧ (∀ b ∈ fp, H' b = none) ∧ Z i m H' := fun {s' H'} I' nx => by
        obtain ⟨m', hm', z'⟩ := hNx H' nx
        have keep : ∀ b ∈ fp, ∀ o, sg.heap.get? b = some o → s'.heap.get? b = some o ∧ H' b = none := fun b hm o e => by
          have z := I'.pin (b, o) (List.mem_append_right _ (List.mem_append_right _ (mem_pinsAt hm e)))
          exact ⟨z.1, z.2.1⟩
        refine ⟨m', hm', i + 1, H', (I'.unpinned (pins := [])).weak (by rw [← wh, wipe_length]) (fun j v e => ?_), T.keep _ _ _ tg' fun b hm o e => (keep b hm o e).1, fun b hm => ?_, z'⟩
        · rw [← wh] at e
          exact (wipe_some e).1
        · obtain ⟨o, e, _⟩ := T.obj _ _ tg' b hm
          exact (keep b hm o e).2
      cases b with
      | false =>
        simp only [Bool.false_eq_true, if_false] at qj ⊢
        exact fin Ij qj
      | true =>
        simp only [if_true] at qj ⊢
        refine thnF (pe.run _ sj σh Hj _ Ij qj) fun z sl ⟨yv, Hl, Il, rl, a, b, hD, ad, nx⟩ => ?_
        exact k.put (Y := X.blk sb Hb sc ce fp) rfl rfl Il hD ad rl fun sm Im => fin Im nx
  exact PpSet.codeAny_compStart_set loop (T.self X.A 0 _ _ _ td loop)
end

/-- sets of ints -/
def kitI (P : Program) (w : World) : SKit P w ((Int → Bool) × Nat) where
  obj := fun a i => SetO w a i.1 i.2
  nil := (fun _ => false, 0)
  add := fun i v j => ∃ c, v = .int c ∧ i.2 + 1 < PySem.scanBound ∧ j = (fun m => i.1 m || decide (m = c), if i.1 c = true then i.2 else i.2 + 1)
  new := fun H h => setO_new (setR_fresh w)
  put := by
    intro Y pins σ H s D i j v u E Q hP hw I hD ad r q
    subst hP
    subst hw
    obtain ⟨c, rfl, room, rfl⟩ := ad
    obtain ⟨t, rfl⟩ : ∃ t, u = Value.int c t := r
    refine setR_add (setO_get I hD) room fun h' sb new => ?_
    have he : ∃ u, h'.get? D = some u := by
      have ⟨o, _, _, _, ho, _⟩ := new
      exact ⟨o, ho⟩
    exact q _ (I.write (e := D) (t' := s.toks + 1) (by rw [hD]; trivial) (.inl rfl) (fun b u hb hu => (sb.2 b hb).trans hu) he (setO_new new))
end Mn

-- Mn3
set_option Elab.async false
set_option linter.all false
set_option maxRecDepth 100000
set_option autoImplicit false
namespace Mn
open PySem PySem.Spec L2

/-! ## the readings: what HandS asks of each piece -/
/-- the world of a law -/
structure Wd where
  P : Program
  w : World
  K : PySem.W.Frag
  mg : Str → Option Value
  base : Heap
  Γ : Gam
  T : List (Addr × Str)
  gv : Nat → V
  fa : Nat → Addr
  ca : Nat → Addr

abbrev noE : TE := fun _ _ _ => False
def rBin : Operator → R2
  | .Add => fun x y H Q => rI0 (fun i j => .int (i + j)) x y H Q ∨ (∃ i j, x = V.str i ∧ y = V.str j ∧ i.length + j.length ≤ sizeLine ∧ Q (.str (i ++ j)) H) ∨ rCat x y H Q
  | .Sub => rI0 fun i j => .int (i - j)
  | .Mult => fun x y H Q => rI CMul (fun i j => .int (i * j)) x y H Q ∨ rRep x y H Q
  | .FloorDiv => rI CDiv fun i j => .int (i / j)
  | .Mod => rI (fun _ j => 0 < j) fun i j => .int (i % j)
  | .Pow => rI CPow fun i j => .int (i ^ j.toNat)
  | _ => fun _ _ _ _ => False
def rCmp (K : PySem.W.Frag) : CmpOp → R2
  | .Lt => rI0 fun i j => .bl (decide (i < j))
  | .LtE => rI0 fun i j => .bl (decide (i ≤ j))
  | .Gt => rI0 fun i j => .bl (decide (j < i))
  | .GtE => rI0 fun i j => .bl (decide (j ≤ i))
  | .Eq => rEqD K
  | .NotEq => rNeD K
  | .In => rIn K false
  | .NotIn => rIn K true
  | .Is => fun x y H Q => rIsB x y H Q ∨ (y = .non ∧ Q (.bl (decide (x = .non))) H)
  | _ => fun _ _ _ _ => False
/-- repr(x) of data -/
def rShow (K : PySem.W.Frag) : List V → Hp → VK → Prop := fun xs H Q => ∃ v d G, xs = [v] ∧ Same G H ∧ See K G H v d ∧ d.shOk = true ∧ d.py.showable = true ∧ d.py.shown.length ≤ big ∧ d.py.depth ≤ 64 ∧ Q (.str d.py.shown) H
def rBi (K : PySem.W.Frag) : Bi → List V → Hp → VK → Prop
  | .len => fun xs H Q => ∃ p ys, xs = [V.ref p] ∧ (SqL K H p ys ∨ SqT K H p ys) ∧ Q (.int ys.length) H
  | .abs => fun xs H Q => ∃ i, xs = [V.int i] ∧ Q (.int (if i < 0 then -i else i)) H
  | .max => fun xs H Q => (∃ i j, xs = [V.int i, V.int j] ∧ Q (.int (if j > i then j else i)) H) ∨ rMax K xs H Q
  | .min => fun xs H Q => (∃ i j, xs = [V.int i, V.int j] ∧ Q (.int (if j < i then j else i)) H) ∨ rMin K xs H Q
  | .int => fun xs H Q => (∃ i, xs = [V.int i] ∧ Q (.int i) H) ∨ ∃ k, xs = [V.bl k] ∧ Q (.int (if k then 1 else 0)) H
  | .divmod => fun xs H Q => ∃ i j, xs = [V.int i, V.int j] ∧ CDiv i j ∧ ∀ p, H p = none → Q (.ref p) (upd H p (.tup [.int (i / j), .int (i % j)]))
  | .repr => rShow K
  | .all => rAll K
  | .any => rAny K
  | .tuple => fun xs H Q => ∃ p ys, xs = [V.ref p] ∧ ((SqL K H p ys ∧ ∀ l, H l = none → Q (.ref l) (upd H l (.tup ys))) ∨ (SqT K H p ys ∧ Q (.ref p) H))
  | .list => fun xs H Q => ∃ p ys, xs = [V.ref p] ∧ (SqL K H p ys ∨ SqT K H p ys) ∧ ∀ l, H l = none → Q (.ref l) (upd H l (.lst ys))
  | .sorted => fun _ _ _ => False
def cV : Const → V
  | .int i => .int i
  | .str x => .str x
  | .bool b => .bl b
  | _ => .non
def cOk : Const → Bool
  | .int _ => true
  | .str _ => true
  | .bool _ => true
  | .none => true
  | _ => false
def rInsert : V → List V → Hp → VK → Prop := fun x vs H Q => ∃ (l : Addr) (xs : List V) (i : Int) (y : V), x = .ref l ∧ vs = [.int i, y] ∧ H l = some (.lst xs) ∧ xs.length < sizeLine ∧ 0 ≤ i ∧ i < 2 ^ 63 ∧ Q .non (upd H l (.lst (xs.take i.toNat ++ [y] ++ xs.drop i.toNat)))
abbrev W0 : WX := fun _ _ _ _ => False
abbrev tTys (ts : List String) : TA := ts.foldr (fun t r => tCons (tC (.ty t)) r) tNil
def rdMe (K : PySem.W.Frag) : Me → TE → List TE → TE
  | .append, to, [ta] => tBM K "list" rAppend to (tCons ta tNil)
  | .insert, to, [ta, tb] => tBM K "list" rInsert to (tCons ta (tCons tb tNil))
  | .get, to, [ta, tb] => tDGet2 to ta tb
  | _, _, _ => noE
/-- set(xs), ints -/
def rSetOfI (w : World) (K : PySem.W.Frag) : List V → Hp → VK → Prop := fun xs H Q => ∃ (l : Addr) (ns : List Int), xs = [V.ref l] ∧ SqL K H l (ns.map V.int) ∧ ns.length ≤ 1000 ∧ ∀ (p : Addr) (n : Nat), H p = none → n ≤ ns.length → Q (.ref p) (upd H p (SetO w p (fun j => decide (j ∈ ns)) n))
/-- list or tuple -/
def iSeq (K : PySem.W.Frag) (t : TE) : TI := fun σ H R => iList K t σ H R ∨ iTup K t σ H R

section
variable (P : Program) (w : World) (K : PySem.W.Frag) (gv : Nat → V) (fsp : Nat → Sp) (tsp : (XK → TE) → TE)
mutual
/-- as a value, as a test -/
def rd : E → WX → TE × TT
  | .var i _, _ => (tVar i, tB (tVar i))
  | .con c _ _, _ => (tC (cV c), tB (tC (cV c)))
  | .glo g _, _ => (tC (gv g), tB (tC (gv g)))
  | .bin op a b _, W => let t := tOp (rBin op) (rd a W).1 (rd b W).1; (t, tB t)
  | .neg a _, W => let t := tUn (rU fun i => .int (-i)) (rd a W).1; (t, tB t)
  | .nt a _, W => (tNotV (rd a W).1, tNot (rd a W).2)
  | .bop op es _, W => rdB op es W
  | .cmp op a b _, W => let t := tOp (rCmp K op) (rd a W).1 (rd b W).1; (t, tTest t)
  | .ife c a b _, W => let t := tIf (rd c W).2 (rd a W).1 (rd b W).1; (t, fun _ _ _ => False)
  | .lst es _, W => let t := tLst (rdA es W); (t, tB t)
  | .tup es _ _, W => let t := tTup (rdA es W); (t, tB t)
  | .dis .nil _, W => (tDNewK, tB tDNewK)
  | .dis (.cons k v ps) _, W => let t := tDisp (((rd k W).1, (rd v W).1) :: rdP ps W); (t, tB t)
  | .idx a b _, W => let t := tOp (rIx K) (rd a W).1 (rd b W).1; (t, tB t)
  | .sli a lo hi _ _, W => let t := tSl (rSlL K) (rd a W).1 (rdO lo W) (rdO hi W); (t, tB t)
  | .rev a _ _ _ _ _, W => let t := tRevL K (rd a W).1; (t, tB t)
  | .call f _ es _, W => let t : TE := fun σ H Q => rdA es W σ H fun vs H1 => fsp f vs H1 Q fun c d H' => W c d σ H'; (t, tB t)
  | .callk f _ _ es _, W => let t : TE := fun σ H Q => rdA es W σ H fun vs H1 => fsp f vs H1 Q fun c d H' => W c d σ H'; (t, tB t)
  | .bi b _ es _, W => let t := tCB (rBi K b) (rdA es W); (t, tB t)
  | .isi a t _ _ _, W => let t := tCB (rIsi K) (tCons (rd a W).1 (tCons (tC (.ty t)) tNil)); (t, tB t)
  | .isiT a ts _ _ _ _, W => let t := tCB (rIsiT K) (tCons (rd a W).1 (tCons (tTup (tTys (ts.map (·.1)))) tNil)); (t, tB t)
  | .me m o _ es _, W => let t := rdMe K m (rd o W).1 (rdL es W); (t, tB t)
  | .lc elt x _ it c _ _, _ => let t := tLc (rdI it W0) (gName x) (rdC c W0) (rd elt W0).1 [x]; (t, tB t)
  | .srt _ elt x _ it c _ _ _, _ => let t := tCB (rSortedSet w) (tCons (tSK (kitI P w) (rdI it W0) (gName x) (rdC c W0) (rd elt W0).1 [x]) tNil); (t, tB t)
  | .srs _ _ e _ _, W => let t := tCB (rSortedSet w) (tCons (tCB (rSetOfI w K) (tCons (rd e W).1 tNil)) tNil); (t, tB t)
  | .told _ _ body _ _ _ _, _ => let t := tsp (fun E => (rd body fun c d _ H => E c d H).1); (t, tB t)
def rdA : Es → WX → TA
  | .nil, _ => tNil
  | .cons e es, W => tCons (rd e W).1 (rdA es W)
def rdL : Es → WX → List TE
  | .nil, _ => []
  | .cons e es, W => (rd e W).1 :: rdL es W
def rdB (op : BoolOp) : Es → WX → TE × TT
  | .nil, _ => (noE, fun _ _ _ => False)
  | .cons e .nil, W => rd e W
  | .cons e es, W => match op with
    | .And => (tAndV (rd e W).1 (rdB op es W).1, tAnd (rd e W).2 (rdB op es W).2)
    | .Or => (tOrV (rd e W).1 (rdB op es W).1, tOr (rd e W).2 (rdB op es W).2)
def rdC : Es → WX → TT
  | .nil, _ => tYes
  | .cons e .nil, W => (rd e W).2
  | _, _ => fun _ _ _ => False
def rdO : Option E → WX → TO
  | none, _ => tNoPart
  | some e, W => tPart (rd e W).1
def rdP : Ps → WX → List (TE × TE)
  | .nil, _ => []
  | .cons k v ps, W => ((rd k W).1, (rd v W).1) :: rdP ps W
def rdI : It → WX → TI
  | .seq e, W => iSeq K (rd e W).1
  | .rng1 _ e _, W => iRng1 (tCons (rd e W).1 tNil)
  | .rng2 _ a b _, W => iRng2 (tCons (rd a W).1 (tCons (rd b W).1 tNil))
end
end
end Mn

-- Mn4
set_option Elab.async false
set_option linter.all false
set_option maxRecDepth 100000
set_option autoImplicit false
namespace Mn
open PySem PySem.Spec L2

/-! ## each piece has its reading -/
def isGl (sc : Scope) (x : Str) : Bool := decide (sc.names.lookup x = some .globalImplicit) && !(x == ("__debug__" : Str))
def isVis (sc : Scope) (x : Str) : Bool := (decide (sc.names.lookup x = some .local) || decide (sc.names.lookup x = some .cell) || decide (sc.names.lookup x = some .free)) && !(x == ("__debug__" : Str)) && !(x == ("__classdict__" : Str))
def elen : Es → Nat
  | .nil => 0
  | .cons _ es => elen es + 1
def plen : Ps → Nat
  | .nil => 0
  | .cons _ _ es => plen es + 1
def isVD : E → Bool
  | .var _ _ => true
  | .dis _ _ => true
  | _ => false
/-- the scope one stands in; whether lambdas are made there -/
structure Sk where
  s : Scope
  lm : Bool
def isNoArgs (a : Arguments) : Bool := a.posonlyargs.isEmpty && a.args.isEmpty && a.vararg.isNone && a.kwonlyargs.isEmpty && a.kw_defaults.isEmpty && a.kwarg.isNone && a.defaults.isEmpty
section
variable (Γ : Gam) (N : List Str)
mutual
def wfE : Sk → E → Bool
  | sc, .var i _ => decide (i < N.length) && isVis sc.s (gname N i)
  | _, .con c _ _ => cOk c
  | sc, .glo g _ => decide (g < Γ.gls.length) && isGl sc.s (gname Γ.gls g)
  | sc, .bin _ a b _ => wfE sc a && wfE sc b
  | sc, .neg a _ => wfE sc a
  | sc, .nt a _ => wfE sc a
  | sc, .bop _ es _ => wfB sc es
  | sc, .cmp _ a b _ => wfE sc a && wfE sc b
  | sc, .ife c a b _ => wfE sc c && wfE sc a && wfE sc b
  | sc, .lst es _ => wfs sc es
  | sc, .tup es _ _ => wfs sc es
  | sc, .dis kvs _ => wfP sc kvs && decide (plen kvs ≤ 15)
  | sc, .idx a b _ => wfE sc a && wfE sc b
  | sc, .sli a lo hi _ _ => wfE sc a && wfO sc lo && wfO sc hi
  | sc, .rev a _ _ _ _ _ => wfE sc a
  | sc, .call f _ es _ => wfs sc es && decide (f < Γ.fns.length) && isGl sc.s (gname Γ.fns f)
  | sc, .callk f _ ks es _ => wfs sc es && decide (f < Γ.fns.length) && isGl sc.s (gname Γ.fns f) && decide (ks.length = elen es) && decide ((f, ks.map (·.1)) ∈ Γ.kws)
  | sc, .bi b _ es _ => wfs sc es && decide (0 < elen es) && isGl sc.s b.nm
  | sc, .isi a t _ _ _ => wfE sc a && isGl sc.s "isinstance" && isGl sc.s (Str.ofString t) && decide (bootBuiltins (Str.ofString t) = some (.type t)) && decide (Str.ofString t ≠ "__name__")
  | sc, .isiT a ts _ _ _ _ => wfE sc a && isGl sc.s "isinstance" && ts.all fun t => isGl sc.s (Str.ofString t.1) && decide (bootBuiltins (Str.ofString t.1) = some (.type t.1)) && decide (Str.ofString t.1 ≠ "__name__")
  | sc, .me m o q es p => wfE sc o && wfs sc es && (q.endLine == p.line) && decide (elen es < 29) && (elen es == (match m with | .append => 1 | .insert => 2 | .get => 2)) && isVD o
  | sc, .lc elt x _ it c sc' _ => wfI sc it && decide (x < N.length) && blkC N sc.s sc' [(gname N x, x)] && decide ((relS sc' sc.s).names.lookup (gname N x) = some .local) && wfE ⟨relS sc' sc.s, false⟩ elt && wfC ⟨relS sc' sc.s, false⟩ c
  | sc, .srt _ elt x _ it c sc' _ _ => isGl sc.s "sorted" && wfI sc it && decide (x < N.length) && blkC N sc.s sc' [(gname N x, x)] && decide ((relS sc' sc.s).names.lookup (gname N x) = some .local) && wfE ⟨relS sc' sc.s, false⟩ elt && wfC ⟨relS sc' sc.s, false⟩ c
  | sc, .srs _ _ e _ _ => isGl sc.s "sorted" && isGl sc.s "set" && wfE sc e
  | sc, .told f _ body ar scope _ _ => decide (gname Γ.fns f = Γ.told) && isGl sc.s Γ.told && sc.lm && LamX.lamSB sc.s scope && isNoArgs ar && wfE ⟨scope, false⟩ body
def wfs : Sk → Es → Bool
  | _, .nil => true
  | sc, .cons e es => wfE sc e && wfs sc es
def wfB : Sk → Es → Bool
  | _, .nil => false
  | sc, .cons e .nil => wfE sc e
  | sc, .cons e es => wfE sc e && wfB sc es
def wfC : Sk → Es → Bool
  | _, .nil => true
  | sc, .cons e .nil => wfE sc e
  | _, _ => false
def wfO : Sk → Option E → Bool
  | _, none => true
  | sc, some e => wfE sc e
def wfP : Sk → Ps → Bool
  | _, .nil => true
  | sc, .cons k v ps => wfE sc k && wfE sc v && wfP sc ps
def wfI : Sk → It → Bool
  | sc, .seq e => wfE sc e
  | sc, .rng1 _ e _ => wfE sc e && isGl sc.s "range"
  | sc, .rng2 _ a b _ => wfE sc a && wfE sc b && isGl sc.s "range"
end
end

/-- the maker of lambdas: its code object, the table of these -/
def LamOk (Ω : Wd) (lv : Nat) (X : Cx) : Prop := Room (lv + 2) X.A ∧ ∃ c P, X.env.code = .ref c ∧ LamX.TabB X.base X.mg c P ∧ (P, X.env.qual ++ "<lambda>") ∈ Ω.T ∧ ∀ p ∈ Ω.T, p.1 = P → p.2 = X.env.qual ++ "<lambda>"
structure Good (Ω : Wd) (N : List Str) (sk : Sk) (lv : Nat) (X : Cx) : Prop where
  P : X.prog = Ω.P
  w : X.w = Ω.w
  K : X.K = Ω.K
  mg : X.mg = Ω.mg
  base : X.base = Ω.base
  N : X.N = N
  nd : X.N.Nodup
  sc : X.env.scope = sk.s
  lam : sk.lm = true → LamOk Ω lv X
  calm : X.calm = true
  room : Room lv X.A
  grd : X.A.guards = some []
  pass : PassesOwn (model X.prog X.w) X.A X.env X.xe
/-- the def that is handed lambdas: what it makes of their reading -/
def TellOk (Ω : Wd) (N : List Str) (lv : Nat) (tsp : (XK → TE) → TE) : Prop := ∀ (sc : Sk) (X : Cx), Good Ω N sc lv X → sc.lm = true → ∀ (ar : Arguments) (body : Expr) (scope : Scope) (t : XK → TE) (q lp p : Pos),
  isGl sc.s Ω.Γ.told = true → LamX.LamS X.env.scope scope → isNoArgs ar = true →
  (∀ (A : Around) (outer : List Env) (s : Shared) (H : Hp) (E : XK) (f c' : Addr), Room lv (A.deeper (LamX.lamEnv X scope s.heap.objs.size f c')) → A.guards = some [] → PE (LamX.lamCx X A outer s H E scope f c') body (t E)) →
  PE X (.Call (.Name Ω.Γ.told q) [.Lambda ar body scope lp] [] p) (tsp t)

/-- a def keeps its promise, called in a way mk, nothing being shown -/
def FnGA (Ω : Wd) (k : Nat) (f : Addr) (mk : List Value → Args) (sp : Sp) : Prop :=
  ∀ (A : Around) (outer : List Env) (s : Shared) (H : Hp) (us : List Value) (vs : List V) (Q : VK) (E : XK), Room k A → A.guards = some [] → Env0 Ω.P Ω.w Ω.K Ω.mg Ω.base A outer s H → Vals vs us → sp vs H Q E →
    codeAny (model Ω.P Ω.w) A (.call (.ref f) (mk us)) (CR (L2.CX Ω.P Ω.w) outer Ω.P Ω.w H s Q E) s
abbrev FnG (Ω : Wd) (k : Nat) (f : Addr) (sp : Sp) : Prop := FnGA Ω k f (fun us => ⟨us, []⟩) sp

/-- what stands written -/
structure Facts (Ω : Wd) (fsp : Nat → Sp) (lv : Nat) : Prop where
  gls : ∀ g, g < Ω.Γ.gls.length → ∃ u, Ω.mg (gname Ω.Γ.gls g) = some u ∧ RelV (Ω.gv g) u
  bis : ∀ b : Bi, Ω.mg b.nm = none
  isi : Ω.mg "isinstance" = none
  rng : Ω.mg "range" = none
  set : Ω.mg "set" = none
  sys : ∃ o, Ω.base.get? sysModules = some o ∧ o.cls ≠ .type "list"
  tys : ∀ t : String, bootBuiltins (Str.ofString t) = some (.type t) → Ω.mg (Str.ofString t) = none
  fns : ∀ f, f < Ω.Γ.fns.length → Ω.mg (gname Ω.Γ.fns f) = some (.ref (Ω.fa f)) ∧ PySem.W.keepIn Ω.K (.ref (Ω.fa f)) = true ∧ FnG Ω lv (Ω.fa f) (fsp f)
  kws : ∀ p ∈ Ω.Γ.kws, FnGA Ω lv (Ω.fa p.1) (fun us => ⟨[], p.2.zip us⟩) (fsp p.1)

section
variable {Γ : Gam} {N : List Str}
theorem star_up (e : E) (es : List Expr) (env : Env) : starEach (up Γ N e :: es) env = (false, eval (up Γ N e) env) :: starEach es env := by
  cases e <;> (simp only [up]; rfl)
theorem plain_up (e : E) : PlainIx (up Γ N e) := by
  intro o i
  cases e <;> (simp only [up]; rfl)
theorem base_up (e : E) (m : Str) (env : Env) (w : Sem Value) (h : isVD e = true) : attributeBase (up Γ N e) m env w = w := by
  cases e <;> first | (cases h; done) | (simp only [up]; rfl)
theorem swap_up (e : E) (t : Option Expr) (l : Nat) (env : Env) (h : ∀ elt x xp it c sc p, e ≠ .lc elt x xp it c sc p) : swapsWith (up Γ N e) t l env = pure false := by
  cases e <;> first | exact absurd rfl (h _ _ _ _ _ _ _) | (simp only [up]; rfl)
theorem ups_len : ∀ es : Es, (ups Γ N es).length = elen es
  | .nil => rfl
  | .cons e es => congrArg Nat.succ (ups_len es)
theorem stars_up : ∀ (es : Es) (env : Env) (pos : Pos), (backTo pos (starEach (ups Γ N es) env)).any (·.1) = false
  | .nil, _, _ => rfl
  | .cons e es, env, pos => by
    simp only [ups]
    rw [star_up]
    show (false || (backTo pos (starEach (ups Γ N es) env)).any (·.1)) = false
    rw [stars_up es env pos] <;> rfl
theorem starsN_up : ∀ (es : Es) (env : Env) (pos : Pos), (backTo pos (starEach (ups Γ N es) env)).all (fun x => !x.1) = true
  | .nil, _, _ => rfl
  | .cons e es, env, pos => by
    simp only [ups]
    rw [star_up]
    show (true && (backTo pos (starEach (ups Γ N es) env)).all (fun x => !x.1)) = true
    rw [starsN_up es env pos] <;> rfl
end

section
variable {Ω : Wd} {N : List Str} {sc : Sk} {lv : Nat} {X : Cx} {fsp : Nat → Sp}
theorem Good.gl (g : Good Ω N sc lv X) {x : Str} (h : isGl sc.s x = true) : Gl X x ∧ (x == ("__debug__" : Str)) = false := by
  unfold isGl at h
  simp only [Bool.and_eq_true, decide_eq_true_eq, Bool.not_eq_true'] at h
  refine ⟨?_, h.2⟩
  show X.env.scope.names.lookup x = some .globalImplicit
  rw [g.sc]
  exact h.1
theorem Good.vis (g : Good Ω N sc lv X) {x : Str} (h : isVis sc.s x = true) : Vis X.env.scope x ∧ (x == ("__debug__" : Str)) = false ∧ (x == ("__classdict__" : Str)) = false := by
  unfold isVis at h
  simp only [Bool.and_eq_true, Bool.or_eq_true, decide_eq_true_eq, Bool.not_eq_true'] at h
  refine ⟨?_, h.1.2, h.2⟩
  rw [g.sc]
  rcases h.1.1 with (h | h) | h
  · exact .inl h
  · exact .inr (.inl h)
  · exact .inr (.inr h)
theorem gname_at {l : List Str} {i : Nat} (h : i < l.length) : l[i]? = some (gname l i) := by
  unfold gname
  rw [List.getD_eq_getElem?_getD, List.getElem?_eq_getElem h] <;> rfl
theorem op_bin (op : Operator) : OpR X (binaryOp op) (rBin op) := by
  cases op <;> first
    | exact op_add.or (op_add_str.or op_cat)
    | exact op_sub
    | exact op_mul.or op_rep
    | exact op_fdiv
    | exact op_mod
    | exact op_pow
    | exact fun _ _ _ _ _ _ _ _ _ _ _ _ h => h.elim
theorem op_cmp (g : Good Ω N sc lv X) (op : CmpOp) : OpR X (compareOp op) (rCmp Ω.K op) := by
  rw [← g.K]
  cases op <;> first
    | exact op_lt
    | exact op_le
    | exact op_gt
    | exact op_ge
    | exact op_eqD g.room.units
    | exact op_neD g.room.units
    | exact op_in_seq
    | exact op_notIn_seq
    | exact op_isBl.or op_isN
    | exact fun _ _ _ _ _ _ _ _ _ _ _ _ h => h.elim
theorem mark_up (op : CmpOp) (Γ : Gam) (N : List Str) (e : E) : behindInMarks op (up Γ N e) = false := by
  cases e <;> (simp only [up]; rfl)
theorem iseq_ok {tg l : Expr} {t : TE} (g : Good Ω N sc lv X) (h : PE X l t) : PI X tg l (iSeq Ω.K t) := by
  rw [← g.K]
  refine ⟨fun pins s σ H R I q => ?_⟩
  rcases q with q | q
  · exact (pi_list h).run pins s σ H R I q
  · exact (pi_tup h).run pins s σ H R I q
/-- the callee runs -/
theorem run_fg {f : Addr} {sp : Sp} {W : WX} {mk : List Value → Args} {pins : List (Addr × Obj)} {σ : L2.St} {H : Hp} {s : Shared} {Q : VK} {us : List Value} {vs : List V} (g : Good Ω N sc lv X) (F : FnGA Ω lv f mk sp) (tk : Takes X W)
    (I : Inv X pins σ H s) (r : Vals vs us) (h : sp vs H Q fun c d H' => W c d σ H') : wpAny (model X.prog X.w) X.A (call (.ref f) (mk us).pos (mk us).kw) (EP X pins σ Q) X.xe s := by
  have e0 := I.env0
  rw [g.P, g.w, g.K, g.mg, g.base] at e0
  have z := F X.A X.stack s H us vs Q (fun c d H' => W c d σ H') g.room g.grd e0 r h
  rw [← g.P, ← g.w] at z
  refine wpAny_call (codeAny_mono z fun r s' hq => ?_)
  cases r with
  | error e =>
    refine tk e s' (XE.of_call (W := W) I (fun _ _ _ q => q) ?_)
    exact hq
  | ok fl =>
    cases fl with
    | ret u => exact I.after hq
    | next => exact False.elim hq
    | brk => exact False.elim hq
    | cont => exact False.elim hq
end
end Mn

-- Mn4b
set_option Elab.async false
set_option linter.all false
set_option maxRecDepth 100000
set_option autoImplicit false
namespace Mn
open PySem PySem.Spec L2
/-! ### repr -/
section
variable {X : Cx} {pins : List (Addr × Obj)} {σ : L2.St} {G H : Hp} {s : Shared}
/-- nothing is being shown; there is room -/
def A0 (X : Cx) : Prop := X.A.guards = some [] ∧ Room 0 X.A
/-- the modules' table is none of the program's things -/
def SysOk (X : Cx) : Prop := ∃ o, X.base.get? sysModules = some o ∧ o.cls ≠ .type "list"
theorem sys_ne_list (I : Inv X pins σ H s) (hs : SysOk X) {a : Addr} {its : Array Value} (h : PlainL s.heap a its) : a ≠ sysModules := fun z => by
  obtain ⟨o, e1, e2⟩ := hs
  obtain ⟨o', n, e3, e4, _⟩ := h
  have := I.bk _ _ e1
  rw [z, this] at e3
  cases e3
  exact e2 e4
theorem sys_ne_tracked (I : Inv X pins σ H s) (hs : SysOk X) {a : Addr} {u : HO} (h : H a = some u) : a ≠ sysModules := fun z => by
  obtain ⟨o, e1, e2⟩ := hs
  have := (I.bs _ _ e1).2
  rw [z, this] at h
  cases h
mutual
theorem Den.reads (I : Inv X pins σ H s) (hs : SysOk X) (sG : Same G H) : ∀ {v : V} {d : D}, Den X.K G v d → d.shOk = true → ∀ u, RelV v u → ∃ as, Reads s.heap u d.py as ∧ sysModules ∉ as
  | _, _, .non, _, u, r => by
    obtain rfl : u = Value.none := r
    simp only [D.py]; exact ⟨_, .none, by simp⟩
  | _, _, .bl b, _, u, r => by
    obtain rfl : u = Value.bool b := r
    simp only [D.py]; exact ⟨_, .bool b, by simp⟩
  | _, _, .int i, _, u, r => by
    obtain ⟨t, rfl⟩ : ∃ t, u = Value.int i t := r
    simp only [D.py]; exact ⟨_, .int i t, by simp⟩
  | _, _, .str x, _, u, r => by
    obtain ⟨t, rfl⟩ : ∃ t, u = Value.str x t := r
    simp only [D.py]; exact ⟨_, .str x t, by simp⟩
  | _, _, .lst (a := a) h t, e, u, r => by
    obtain rfl : u = Value.ref a := r
    obtain ⟨its, rv, hp, _⟩ := I.list (a := a) (.inl (.inl (sG _ _ h)))
    obtain ⟨as, q1, q2⟩ := DenL.reads I hs sG t (by simpa [D.shOk] using e) its rv
    have ne := sys_ne_list I hs hp
    obtain ⟨o, n, e1, e2, _, e3⟩ := hp
    simp only [D.py]
    exact ⟨_, .list e1 e2 e3 q1, by simp only [List.mem_cons, not_or]; exact ⟨Ne.symm ne, q2⟩⟩
  | _, _, .rol (a := a) h t, e, u, r => by
    obtain rfl : u = Value.ref a := r
    obtain ⟨its, rv, hp, _⟩ := I.list (a := a) (sqL_mono sG h)
    obtain ⟨as, q1, q2⟩ := DenL.reads I hs sG t (by simpa [D.shOk] using e) its rv
    have ne := sys_ne_list I hs hp
    obtain ⟨o, n, e1, e2, _, e3⟩ := hp
    simp only [D.py]
    exact ⟨_, .list e1 e2 e3 q1, by simp only [List.mem_cons, not_or]; exact ⟨Ne.symm ne, q2⟩⟩
  | _, _, .tup (a := a) h t, e, u, r => by
    obtain rfl : u = Value.ref a := r
    obtain ⟨its, rv, hp, _⟩ := I.tuple (a := a) (sqT_mono sG h)
    obtain ⟨as, q1, q2⟩ := DenL.reads I hs sG t (by simpa [D.shOk] using e) its rv
    obtain ⟨o, e1, e2, n, e3⟩ := hp
    simp only [D.py]
    exact ⟨_, .tuple e1 e2 e3 q1, q2⟩
  | _, _, .dct (a := a) h t, e, u, r => by
    obtain rfl : u = Value.ref a := r
    have ne := sys_ne_tracked I hs (sG _ _ h)
    obtain ⟨_, _, ws, kv, o, es, ep, ho, ex, hd, _, pr, _⟩ := I.hok a _ (sG _ _ h)
    obtain ⟨as, bs, q1, q2, q3, q4⟩ := DenK.reads I hs sG t (by simpa [D.shOk] using e) es.toList ws kv pr
    simp only [D.py]
    refine ⟨_, .dict ho ex.1 hd q1 q2, ?_⟩
    simp only [List.cons_append, List.mem_cons, List.mem_append, not_or]
    exact ⟨Ne.symm ne, q3, q4⟩
  | _, _, .obj h _ t, e, u, r => by simp [D.shOk] at e
theorem DenL.reads (I : Inv X pins σ H s) (hs : SysOk X) (sG : Same G H) : ∀ {vs : List V} {ds : List D}, DenL X.K G vs ds → shOks ds = true → ∀ us, Vals vs us → ∃ as, ReadsAll s.heap us (pys ds) as ∧ sysModules ∉ as
  | _, _, .nil, _, us, r => by
    cases r
    simp only [pys]; exact ⟨_, .nil, by simp⟩
  | _, _, .cons h t, e, us, r => by
    cases r with
    | cons r1 r2 =>
      simp only [shOks, Bool.and_eq_true] at e
      obtain ⟨as, q1, q2⟩ := Den.reads I hs sG h e.1 _ r1
      obtain ⟨bs, q3, q4⟩ := DenL.reads I hs sG t e.2 _ r2
      simp only [pys]
      exact ⟨_, .cons q1 q3, by simp only [List.mem_append, not_or]; exact ⟨q2, q4⟩⟩
theorem DenK.reads (I : Inv X pins σ H s) (hs : SysOk X) (sG : Same G H) : ∀ {vs : List (Key × V)} {ds : List (Key × D)}, DenK X.K G vs ds → shOkk ds = true → ∀ (l : List DictEntry) (ws : List (Key × Value)), KV vs ws → Pairs (mixKind X.prog X.w) l ws →
    ∃ as bs, ReadsAll s.heap (l.map (·.key)) ((pyk ds).map (·.1)) as ∧ ReadsAll s.heap (l.map (·.val)) ((pyk ds).map (·.2)) bs ∧ sysModules ∉ as ∧ sysModules ∉ bs
  | _, _, .nil, _, l, ws, kv, pr => by
    cases kv
    cases pr
    simp only [pyk, List.map_nil]
    exact ⟨_, _, .nil, .nil, by simp, by simp⟩
  | _, _, .cons (k := k) (v := v) (d := d) h t, e, l, ws, kv, pr => by
    cases kv with
    | cons k1 k2 =>
      cases pr with
      | @cons en _ _ _ p1 p2 p3 =>
        obtain ⟨e1, e2⟩ := k1
        simp only [shOkk, Bool.and_eq_true] at e
        obtain ⟨as, q1, q2⟩ := Den.reads I hs sG h e.1 _ e2
        obtain ⟨cs, bs, q3, q4, q5, q6⟩ := DenK.reads I hs sG t e.2 _ _ k2 p3
        rw [← p2] at q1
        rw [← e1] at p1
        have key : ∃ as, Reads s.heap en.key (match k with | .inl i => PyData.int i | .inr x => PyData.str x) as ∧ as = [] := by
          rcases keyIs_shape (show keyIs k _ = true from p1) with ⟨i, t, rfl, e3⟩ | ⟨x, t, rfl, e3⟩
          · rw [e3]
            exact ⟨_, .int i t, rfl⟩
          · rw [e3]
            exact ⟨_, .str x t, rfl⟩
        obtain ⟨ks, r1, rfl⟩ := key
        refine ⟨[] ++ cs, as ++ bs, ?_, ?_, by simpa using q5, by simp only [List.mem_append, not_or]; exact ⟨q2, q6⟩⟩
        · cases k <;> (simp only [pyk, List.map_cons]; exact .cons r1 q3)
        · cases k <;> (simp only [pyk, List.map_cons]; exact .cons q1 q4)
end
theorem cr_show (hr : A0 X) (hs : SysOk X) : CallR X (.builtin "repr") (rShow X.K) := by
  intro pins s σ H vs us Q I r h
  obtain ⟨v, d, G, rfl, sG, see, ok, sh, len, dep, q⟩ := h
  cases r with
  | cons r1 r2 =>
    cases r2
    rename_i u
    have hz : d.py.shown.length ≤ sizeLine := Nat.le_trans len (by decide)
    have rd : ∃ as, Reads s.heap u d.py as ∧ sysModules ∉ as := by
      rcases see with see | ⟨a, ws, xs, rfl, rfl, h1, h2⟩
      · exact see.reads I hs sG ok u r1
      · obtain rfl : u = Value.ref a := r1
        obtain ⟨its, rv, hp, _⟩ := I.list (a := a) (.inl (.inl h1))
        obtain ⟨as, q1, q2⟩ := DenL.reads I hs sG h2 (by simpa [D.shOk] using ok) its rv
        have ne := sys_ne_list I hs hp
        obtain ⟨o, n, e1, e2, _, e3⟩ := hp
        simp only [D.py]
        exact ⟨_, .list e1 e2 e3 q1, by simp only [List.mem_cons, not_or]; exact ⟨Ne.symm ne, q2⟩⟩
    obtain ⟨as, rd, ns⟩ := rd
    have fin : ∀ (h' : Heap) (t : Tok) (tk : Nat), (∀ b o, s.heap.get? b = some o → h'.get? b = some o) → EP X pins σ Q (.str d.py.shown t) { s with heap := h', toks := tk } := fun h' t tk k => ⟨.str d.py.shown, H, I.kept (t' := tk) k, ⟨t, rfl⟩, q⟩
    have same : ∀ {x : Str} {t : Tok} {tk : Nat}, x = d.py.shown → EP X pins σ Q (.str x t) { s with toks := tk } := fun {x t tk} e => by
      rw [e]
      exact fin s.heap t tk fun _ _ z => z
    generalize hd : d.py = pd at rd sh hz dep fin same
    have hu : X.A.units + (pd.depth + 1) < cLine := by
      have := hr.2.un
      omega
    cases rd with
    | none => exact PySem.P.repr_of_none (same rfl)
    | bool b => exact PySem.P.repr_of_bool (same (by simp only [PyData.shown]))
    | int i t => exact PySem.P.repr_of_int (by simpa [PyData.showable] using sh) (same (by simp only [PyData.shown]))
    | str x t => exact PySem.P.repr_of_str (same (by simp only [PyData.shown])) (by simpa only [PyData.shown] using hz)
    | list h1 h2 h3 h4 => exact repr_of_reads' (.list h1 h2 h3 h4) sh (fun _ => ns) hr.1 hu (fun _ _ z => z) (fun h' u tk k => fin h' u tk k) hz
    | tuple h1 h2 h3 h4 => exact repr_of_reads' (.tuple h1 h2 h3 h4) sh (fun _ => ns) hr.1 hu (fun _ _ z => z) (fun h' u tk k => fin h' u tk k) hz
    | dict h1 h2 h3 h4 h5 => exact repr_of_reads' (.dict h1 h2 h3 h4 h5) sh (fun _ => ns) hr.1 hu (fun _ _ z => z) (fun h' u tk k => fin h' u tk k) hz
end
end Mn

-- Mn4d
set_option Elab.async false
set_option linter.all false
set_option maxRecDepth 100000
set_option maxHeartbeats 3200000
set_option autoImplicit false
namespace Mn
open PySem PySem.Spec L2 PyProof.Rows
/-! ### set(xs) of a list of ints -/
section
variable {P : Program} {w : World} {A : Around} {E : Value → Shared → Prop} {s : Shared}
/-- a set as it is made -/
abbrev setE (w : World) : Obj := { cls := .type "set", dict := none, data := .set #[] 0 (.fresh 0 0 (!w.params.followText "set-order")) }
/-- what is left of the list's walk into the set -/
theorem fill_list {l : Addr} {items : Array Value} {ns : List Int} {Q : Unit → Value → Shared → Prop} (hh : A.handled = none) (hl : s.heap.IsList l items) (hit : IntsAre items.toList ns) (hb : ns.length + 1 < scanBound) {R : Result → Shared → Prop}
    (k : ∀ (h' : Heap) (tk c : Nat), SetR w h' s.heap.objs.size (fun j => decide (j ∈ ns)) c → c ≤ ns.length → (∀ b o, s.heap.get? b = some o → h'.get? b = some o) → R (.ok (.ret .none)) { s with heap := h', toks := tk }) :
    codeAny (model P w) A (.builtin "set.update.loop" ⟨[.ref s.heap.objs.size, .ref (s.heap.push (setE w)).objs.size], []⟩) R { s with heap := (s.heap.push (setE w)).push { cls := .type "list_iterator", data := .fields #[.ref l, .int 0 0] } } := by
  have hisz : items.size = ns.length := by
    have q := IntsAre.length hit
    rw [Array.length_toList] at q
    exact q
  have lS : l < s.heap.objs.size := by
    obtain ⟨o, e, _⟩ := hl
    exact Heap.lt_size e
  have hl1 : (s.heap.push (setE w)).IsList l items := hl.push _
  have sz : (s.heap.push (setE w)).objs.size = s.heap.objs.size + 1 := Heap.size_push ..
  have neI : l ≠ (s.heap.push (setE w)).objs.size := by rw [sz]; exact Nat.ne_of_lt (Nat.lt_succ_of_lt lS)
  have out : s.heap.objs.size ∉ [(s.heap.push (setE w)).objs.size, l] := by
    rw [sz]
    simp only [List.mem_cons, List.mem_singleton, List.not_mem_nil, or_false, not_or]
    exact ⟨Nat.ne_of_lt (Nat.lt_succ_self _), Nat.ne_of_gt lS⟩
  have val : ∀ (i : Nat) (v : Value), items[i]? = some v → ∃ k t, ns[i]? = some k ∧ v = .int k t := fun i v hv => by
    have hi : i < ns.length := by rw [← hisz]; exact (Array.getElem?_eq_some_iff.mp hv).1
    obtain ⟨t, e⟩ := IntsAre.int_at hit i v (by rw [Array.getElem?_toList]; exact hv)
    refine ⟨ns[i], t, List.getElem?_eq_getElem hi, ?_⟩
    rw [e, List.getD_eq_getElem?_getD, List.getElem?_eq_getElem hi] <;> rfl
  have hh1 : A.in1.handled = none := by simp [hh]
  refine set_update_ints ((Walks.list hh1 _ l neI items).toS) s.heap.objs.size out ns hisz hb val (items.size - 0) 0 _ (by omega) (Nat.zero_le _) ⟨⟨_, Heap.get?_push_size _ rfl, rfl, rfl⟩, (hl1.push _)⟩
    ⟨0, Nat.le_refl 0, setR_new_at (Heap.get?_push_of_some _ (Heap.get?_push_size _ rfl))⟩ fun s' c hm hc hS => ?_
  obtain ⟨h', g2, d', tk', os'⟩ := s'
  have eg : g2 = s.gens := hm.gens
  have ed : d' = s.drawn := hm.drawn
  have eo : os' = s.os := hm.os
  subst eg; subst ed; subst eo
  rw [hisz] at hc
  refine k h' tk' c hS hc fun b o e => ?_
  have lb := Heap.lt_size e
  refine hm.heap b o ?_ (Heap.get?_push_of_some _ (Heap.get?_push_of_some _ e))
  rw [sz]
  simp only [List.mem_cons, List.mem_singleton, List.not_mem_nil, or_false, not_or]
  exact ⟨Nat.ne_of_lt lb, Nat.ne_of_lt (Nat.lt_succ_of_lt lb)⟩
theorem call_setI {l : Addr} {items : Array Value} {ns : List Int} {Q : Value → Shared → Prop} (hh : A.handled = none) (hl : s.heap.IsList l items) (hit : IntsAre items.toList ns) (hb : ns.length + 1 < scanBound)
    (h : ∀ (h' : Heap) (tk c : Nat), SetR w h' s.heap.objs.size (fun j => decide (j ∈ ns)) c → c ≤ ns.length → (∀ b o, s.heap.get? b = some o → h'.get? b = some o) → Q (.ref s.heap.objs.size) { s with heap := h', toks := tk }) :
    wpAny (model P w) A (call (.type "set") [.ref l]) Q E s := by
  obtain ⟨c, tl, hmro⟩ := F.called_set.mro
  have hmade := F.called_set.made
  have hsub := F.called_set.sub
  refine wpAny_call (codeAny_of_tree ?_)
  show wpAny _ _ (callAny (.type "set") _) _ _ _
  refine wpAny_pure ⟨Code.quiet_builtin _ (by decide +kernel), codeAny_builtin F.entry_type_call ?_⟩
  rw [Around.under_plain (weight_type_call_type "set" [.ref l] []) rfl]
  have n1 := F.called_set.notType
  have n2 := F.called_set.canCreate
  have n3 := F.typeCall_set_1 (.ref l)
  repeat (any_goals (first | assumption | wp_step))
  refine codeAny_mono (code_set_led1 (.ref l) (E := E) (Q₁ := fun obj s₁ => obj = .ref s.heap.objs.size ∧ s₁ = { s with heap := s.heap.push (setE w) }) ⟨rfl, rfl⟩) fun r s₁ hr => ?_
  cases r with
  | error e => exact hr
  | ok fl =>
    cases fl with
    | ret obj =>
      obtain ⟨rfl, rfl⟩ := hr
      have hS : (s.heap.push (setE w)).get? s.heap.objs.size = some (setE w) := Heap.get?_push_size _ rfl
      have hT : Shared.TypeIs { s with heap := s.heap.push (setE w) } (.ref s.heap.objs.size) "set" := ⟨_, hS, rfl⟩
      have hli := F.called_set.init.lookup
      have hbi := F.called_set.init.bind (.ref s.heap.objs.size)
      repeat (any_goals (first | assumption | wp_step))
      refine codeAny_mono (codeAny_call_builtin (R := wants (fun r s₂ => r = .none ∧ ∃ h' tk c, s₂ = { s with heap := h', toks := tk } ∧ SetR w h' s.heap.objs.size (fun j => decide (j ∈ ns)) c ∧ c ≤ ns.length ∧
          (∀ b o, s.heap.get? b = some o → h'.get? b = some o)) E) F.called_set.init.plain F.entry_set_init (check_set_init_1 hT ?_)) fun r₂ s₂ hr₂ => ?_
      · have hl0 := hl
        obtain ⟨ol, hol, hcl, nl, hdl⟩ := hl
        obtain ⟨ocls, odict, odata, oslots⟩ := ol
        simp only at hcl hdl
        subst hcl; subst hdl
        have hol' : (s.heap.push (setE w)).get? l = some { cls := .type "list", dict := odict, data := .seq items nl, slots := oslots } := Heap.get?_push_of_some _ hol
        have hsls := F.sub_list_set
        have hslf := F.sub_list_frozenset
        have hne : (Value.type "list" == Value.type "dict") = false := by decide
        have hl1 : (s.heap.push (setE w)).IsList l items := ⟨_, hol', rfl, nl, rfl⟩
        unfold Builtin.«set.__init__» noKeywords Builtin.Frozenset.updateFrom
        generalize hPI : pyIter = PI
        wp_walk
        subst hPI
        refine wpAny_pyIter_list hl1 ?_
        refine wpAny_bind (wpAny_runValue ?_)
        refine fill_list (A := A.in1.in1) (Q := fun _ _ _ => True) (by simp [hh]) hl0 hit hb fun h' tk c hS hc hk => ?_
        show wpAny _ _ _ _ _ _
        refine wpAny_pure ?_
        show wpAny _ _ (ret Value.none) _ _ _
        exact wpAny_pure ⟨rfl, h', tk, c, rfl, hS, hc, hk⟩
      · cases r₂ with
        | error e => exact hr₂
        | ok fl =>
          cases fl with
          | ret u =>
            obtain ⟨rfl, h', tk, c, rfl, hS, hc, hk⟩ := hr₂
            repeat (any_goals (first | assumption | wp_step))
            all_goals exact h h' tk c hS hc hk
          | next => exact hr₂
          | brk => exact hr₂
          | cont => exact hr₂
    | next => exact hr
    | brk => exact hr
    | cont => exact hr
end
theorem cr_setI {X : Cx} (hc : X.calm = true) : CallR X (.type "set") (rSetOfI X.w X.K) := by
  intro pins s σ H vs us Q I r h
  obtain ⟨l, ns, rfl, hs, hz, q⟩ := h
  obtain ⟨its, rv, hl, _⟩ := I.list hs
  rw [Vals.ref1 r]
  have hb : ns.length + 1 < scanBound := by
    have : scanBound = 4096 := rfl
    omega
  refine call_setI (I.ok.hd hc) hl.isList (by simpa using rv.ints) hb fun h' tk c hS hc k => ?_
  exact ⟨.ref _, upd H s.heap.objs.size (SetO X.w s.heap.objs.size (fun j => decide (j ∈ ns)) c), I.laid (t' := tk) k (Nat.le_refl _) (setO_new hS), rfl, q _ _ (I.hok.fresh (Nat.le_refl _)) hc⟩
end Mn

-- Mn4e
set_option Elab.async false
set_option linter.all false
set_option maxRecDepth 100000
set_option maxHeartbeats 2000000
set_option autoImplicit false
namespace Mn
open PySem PySem.Spec L2 LamX PyProof.Rows
/-! ### a lambda handed to a def, nothing being shown -/
section
variable {X : Cx} {pins : List (Addr × Obj)} {σ : L2.St} {H HZ : Hp} {s s1 : Shared}
/-- all that is tracked stays tracked -/
def Lives (H H' : Hp) : Prop := ∀ b o, H b = some o → ∃ o', H' b = some o'
/-- the lambda is made: its code object is new, or it stood in the table -/
theorem lam_new {T : List (Addr × Str)} {c P : Addr} {ar : Arguments} {body : Expr} {sc : Scope} {pos : Pos} {E : Value → Shared → Prop} {Q : Value → Shared → Prop} (I : L2.Inv X pins σ H s) (TB : TabB X.base X.mg c P) (hcode : X.env.code = .ref c)
    (hm : (P, X.env.qual ++ "<lambda>") ∈ T) (hu : ∀ p ∈ T, p.1 = P → p.2 = X.env.qual ++ "<lambda>") (hT : Tabs T H) (hdef : defaultsOf ar X.env = ([], [])) (hfree : ∀ y ∈ sc.names, y.2 = .free → ∃ c, X.env.cells.lookup y.1 = some c)
    (h : ∀ (f c' : Addr) (pm ctv : Value) (H1 : Hp) (s' : Shared), L2.Inv X pins σ H1 s' → ExtN H H1 → Tabs T H1 → Lives H H1 →
      s'.heap.get? f = some (PySem.W.kla_obj "<lambda>" (X.env.qual ++ "<lambda>") ar body sc (cloFrom X.env.cells sc.names []) pm c' ctv) → H1 f = none → f ∉ frs X.stack → H1 c' = some (CodeO c' (X.env.qual ++ "<lambda>")) → Q (.ref f) s') :
    wpAny (model X.prog X.w) X.A (eval (.Lambda ar body sc pos) X.env) Q E s := by
  obtain ⟨ps, hP, ht, ha⟩ := hT _ hm
  refine PySem.W.kla_eval hdef ?_
  have bP : s.heap.BuiltinsAt X.mg P := TB.bm.keeps I.bk
  have oP : s.heap.get? P = some { cls := .none, data := .fields ps } := I.hok P _ hP
  have out : ∀ f, s.heap.objs.size ≤ f → f ∉ frs X.stack := fun f hf z => by
    rcases List.mem_cons.mp (I.stkSub _ z) with e | e
    · have lt := I.lt
      rw [← e] at lt
      exact Nat.lt_irrefl _ (Nat.lt_of_lt_of_le lt hf)
    · exact I.nofs hf e
  cases hc : codeAmong pos ps.toList with
  | none =>
    refine PySem.W.kla_makeFunction (mg := X.mg) (c := c) (P := P) (ps := ps) (closure_ok hfree) I.ok.glob (I.mod.glob.keeps I.bk) hcode (TB.code.keeps I.bk) oP ht hc TB.gP bP fun c' ctv h' tk hx ge lt rc htb => ?_
    obtain ⟨c2, oc, vs, t, e2, hoc, hd, hv⟩ := rc
    cases e2
    have sz : s.heap.objs.size ≤ h'.objs.size := Nat.le_trans ge (Nat.le_of_lt lt)
    have nC : H c' = none := I.hok.fresh ge
    have I1 := inv_table (t' := tk) (more := #[rawInt pos.line, rawInt pos.col, .ref c']) (h' := h'.push (PySem.W.kla_obj "<lambda>" (X.env.qual ++ "<lambda>") ar body sc (cloFrom X.env.cells sc.names []) ((X.mg "__name__").getD .none) c' ctv)) I hP
      (fun b o hb e => Heap.get?_push_of_some _ (hx b o hb e)) (Heap.get?_push_of_some _ htb) ge ⟨oc, vs, t, Heap.get?_push_of_some _ hoc, hd, hv⟩
    generalize eH : upd (upd H P (.tbl (ps ++ #[rawInt pos.line, rawInt pos.col, .ref c']))) c' (CodeO c' (X.env.qual ++ "<lambda>")) = H1 at I1
    have hE : ExtN H H1 := fun b o e n => by
      rw [← eH, upd_ne (ne_of_none e nC), upd_ne (fun z => n ps (Option.some.inj (e.symm.trans (by rw [z]; exact hP))))]
      exact e
    have hL : Lives H H1 := fun b o e => by
      by_cases hb : b = P
      · rw [← eH, hb, upd_ne (ne_of_none hP nC), upd_same]
        exact ⟨_, rfl⟩
      · rw [← eH, upd_ne (ne_of_none e nC), upd_ne hb]
        exact ⟨o, e⟩
    have eL : (ps ++ #[rawInt pos.line, rawInt pos.col, .ref c']).toList = ps.toList ++ [rawInt pos.line, rawInt pos.col, .ref c'] := by simp
    refine h h'.objs.size c' ((X.mg "__name__").getD .none) ctv H1 _ I1 hE (fun p hp => ?_) hL (Heap.get?_push_size _ rfl) ?_ (out _ sz) (by rw [← eH]; exact upd_same)
    · by_cases hb : p.1 = P
      · rw [hu p hp hb, hb]
        refine ⟨_, by rw [← eH, upd_ne (ne_of_none hP nC), upd_same], by rw [eL]; exact PySem.TriplesOk_snoc _ _ _ _ ht, fun p' cv hcv => ?_⟩
        rw [eL] at hcv
        rcases among_app _ ht hcv with z | z
        · obtain ⟨c0, e1, e2⟩ := ha p' cv z
          exact ⟨c0, e1, hE _ _ e2 codeO_ne⟩
        · exact ⟨c', z, by rw [← eH]; exact upd_same⟩
      · obtain ⟨ps', a1, a2, a3⟩ := hT p hp
        refine ⟨ps', by rw [← eH, upd_ne (ne_of_none a1 nC), upd_ne hb]; exact a1, a2, fun p' cv hcv => ?_⟩
        obtain ⟨c0, e1, e2⟩ := a3 p' cv hcv
        exact ⟨c0, e1, hE _ _ e2 codeO_ne⟩
    · have n2 : h'.objs.size ≠ P := Nat.ne_of_gt (Nat.lt_of_lt_of_le (Heap.lt_size oP) sz)
      rw [← eH, upd_ne (Nat.ne_of_gt lt), upd_ne n2]
      exact I.hok.fresh sz
  | some cv =>
    obtain ⟨c', e, hco⟩ := ha pos cv hc
    subst e
    refine PySem.W.kla_makeFunctionHit (mg := X.mg) (c := c) (P := P) (ps := ps) (closure_ok hfree) I.ok.glob (I.mod.glob.keeps I.bk) hcode (TB.code.keeps I.bk) oP ht hc bP fun ctv h' tk hx sz => ?_
    have I1 : L2.Inv X pins σ H { s with heap := h'.push (PySem.W.kla_obj "<lambda>" (X.env.qual ++ "<lambda>") ar body sc (cloFrom X.env.cells sc.names []) ((X.mg "__name__").getD .none) c' ctv), toks := tk } := I.kept fun b o e => Heap.get?_push_of_some _ (hx b o e)
    exact h h'.objs.size c' ((X.mg "__name__").getD .none) ctv H _ I1 (ExtN.refl H) hT (fun b o e => ⟨o, e⟩) (Heap.get?_push_size _ rfl) (I.hok.fresh sz) (out _ sz) hco
/-- what is read of x(lambda: ..) -/
def tLamG (T : List (Addr × Str)) (TT : (XK → Hp → VK → Prop) → Hp → VK → Prop) (t : XK → TE) : TE := fun σ H Q => Tabs T H ∧ ∀ H1, ExtN H H1 → Tabs T H1 → Lives H H1 → TT (fun E H' Q' => t E σ H' Q') H1 Q
theorem pe_actG {CXg : CXT} {Eg : XK} {Ng : List Str} {qg : Str} {sg : Scope} {g f c' : Addr} {cdg pm ctv : Value} {ar : Arguments} {body : Expr} {sc : Scope} {k i : Nat} {a : Str} {pn : List (Addr × Obj)} {xe : Value → Shared → Prop} {W : WX} {E : XK} {tb : TE} {p1 p2 : Pos}
    (I : L2.Inv X pins σ H s) (L : LamS X.env.scope sc) (hf : s.heap.get? f = some (PySem.W.kla_obj "<lambda>" (X.env.qual ++ "<lambda>") ar body sc (cloFrom X.env.cells sc.names []) pm c' ctv)) (nf : H f = none) (nfr : f ∉ frs X.stack)
    (hbind : bindArgs (PySem.W.kla_fn "<lambda>" (X.env.qual ++ "<lambda>") ar body sc (cloFrom X.env.cells sc.names []) pm (.ref c') ctv) ⟨[], []⟩ = pure [])
    (tk : Takes ((cxOf CXg X.prog X.w X.K X.mg X.base Ng qg sg g cdg X.A X.stack s H Eg).tr pn xe) W) (hW : ∀ cls d (σ' : L2.St) H', σ'.length = Ng.length → E cls d H' → W cls d σ' H') (hr : Room (k + 1) (X.A.deeper (envOfC qg sg s.heap.objs.size g cdg))) (hg : X.A.guards = some [])
    (hbody : ∀ (A : Around) (outer : List Env) (s : Shared) (H : Hp), Room k (A.deeper (lamEnv X sc s.heap.objs.size f c')) → A.guards = some [] → PE (lamCx X A outer s H E sc f c') body tb)
    (hN : Ng[i]? = some a) (hv : Vis sg a) (hd : (a == ("__debug__" : Str)) = false) (hcd : (a == ("__classdict__" : Str)) = false) :
    PE ((cxOf CXg X.prog X.w X.K X.mg X.base Ng qg sg g cdg X.A X.stack s H Eg).tr pn xe) (.Call (.Name a p1) [] [] p2)
      (fun σZ HZ Q => σZ[i]? = some (some (.ref f)) ∧ HZ c' = some (CodeO c' (X.env.qual ++ "<lambda>")) ∧ tb σ HZ Q) := by
  refine ⟨fun pinsZ sZ σZ HZ Q IZ ⟨hs, hc, ht⟩ => ?_⟩
  refine wpAny_Call_Name_kw (thn ((pe_var (pos := p1) (i := i) hN hv hd hcd).run pinsZ sZ σZ HZ (fun v H1 => v = .ref f ∧ H1 = HZ) IZ ⟨.ref f, hs, rfl, rfl⟩) fun u s1 ⟨v, H1, I1, r1, q1⟩ => ?_)
  obtain ⟨rfl, rfl⟩ := q1
  obtain rfl : u = Value.ref f := r1
  have of1 : s1.heap.get? f = some (PySem.W.kla_obj "<lambda>" (X.env.qual ++ "<lambda>") ar body sc (cloFrom X.env.cells sc.names []) pm c' ctv) := I1.base.keep f _ hf nf nfr (fun z => nomatch (show f ∈ ([] : List Addr) from z))
  refine PySem.W.callWith_F0 ⟨_, _, _, _, of1⟩ ?_
  have un : Un (frs X.stack) [] H H1 s.heap s1.heap := I1.base
  obtain ⟨⟨oc, vs, t, e1, e2, e3⟩, _, _⟩ := I1.hok c' _ hc
  have rc : codeAny (model X.prog X.w) (X.A.deeper (envOfC qg sg s.heap.objs.size g cdg)) (.call (.ref f) ⟨[], []⟩) (CR (L2.CX X.prog X.w) (envOfC qg sg s.heap.objs.size g cdg :: X.stack) X.prog X.w H1 s1 Q E) s1 := by
    refine PySem.W.kla_callFunE hr.depth of1 rfl L.co L.gen rfl ⟨c', oc, vs, t, rfl, e1, e2, e3⟩ ?_
    rw [hbind]
    refine wpAny_pure (wpAny_newFunctionEnv (fun y hy => (L.own y hy).2) (fun y hy => absurd hy (by simp)) (fun h₁ hns hsb => ⟨I1.nolimit.fresh _ hsb, ?_⟩) L.kind)
    show codeAny _ _ (.expr body (lamEnv X sc s1.heap.objs.size f c')) _ _
    have kp : ∀ b o, s1.heap.get? b = some o → h₁.get? b = some o := fun b o e => hsb.extBut b o (Nat.ne_of_lt (Heap.lt_size e)) (Heap.get?_push_of_some _ e)
    have J : L2.Inv (lamCx X (X.A.deeper (envOfC qg sg s.heap.objs.size g cdg)) (envOfC qg sg s.heap.objs.size g cdg :: X.stack) s1 H1 E sc f c') [] σ H1 { s1 with heap := h₁, toks := s1.toks + ([] : List (Str × Value)).length } :=
      lam_start2 I L I1.env0 hr.hd un hns kp
    refine PySem.W.kla_codeExpr (wpAny_mono ((hbody _ _ s1 H1 (hr.deeper _) hg).run [] _ _ H1 Q J ht) (fun v s' hq => ?_) fun e s' hq => hq)
    obtain ⟨w', H', J', rv, q⟩ := hq
    exact ⟨w', H', J'.os, J'.bare, J'.base, J'.hok, rv, q⟩
  refine wpAny_call (codeAny_mono rc fun r s' hq => ?_)
  cases r with
  | error e => exact tk e s' (XE.of_call (W := W) I1 (fun cls d H' z => hW cls d σZ H' I1.len z) hq)
  | ok fl =>
    cases fl with
    | ret u => exact I1.after hq
    | next => exact False.elim hq
    | brk => exact False.elim hq
    | cont => exact False.elim hq
/-- the def that calls what it got: a calls it; TT: what it makes of the lambda's reading -/
def GivesG (X : Cx) (Ng : List Str) (x : Str) (sg : Scope) (g : Addr) (cdg : Value) (bg : List Stmt) (a : Str) (q : Str) (TT : (XK → Hp → VK → Prop) → Hp → VK → Prop) : Prop :=
  ∀ (f c' : Addr) (s : Shared) (H : Hp) (Q : VK) (tl : XK → Hp → VK → Prop),
    (∀ (W : WX) (pn : List (Addr × Obj)) (xe : Value → Shared → Prop) (E : XK) (p1 p2 : Pos), Takes ((cxOf C8.CX0 X.prog X.w X.K X.mg X.base Ng x sg g cdg X.A X.stack s H C8.E0).tr pn xe) W → (∀ cls d (σ' : L2.St) H', σ'.length = Ng.length → E cls d H' → W cls d σ' H') →
      PE ((cxOf C8.CX0 X.prog X.w X.K X.mg X.base Ng x sg g cdg X.A X.stack s H C8.E0).tr pn xe) (.Call (.Name a p1) [] [] p2) (fun σZ HZ Q => σZ[0]? = some (some (.ref f)) ∧ HZ c' = some (CodeO c' q) ∧ tl E HZ Q)) →
    H c' = some (CodeO c' q) → TT tl H Q →
    ∃ t, PSs (cxOf C8.CX0 X.prog X.w X.K X.mg X.base Ng x sg g cdg X.A X.stack s H C8.E0).nox bg t ∧ t { nx := fun _ H' => Q .non H', rt := Q } (L2.start Ng [.ref f]) H
/-- x(lambda: body) -/
theorem pe_lamG {T : List (Addr × Str)} {TT : (XK → Hp → VK → Prop) → Hp → VK → Prop} {x a : Str} {g c P : Addr} {k : Nat} {pg : Arguments} {bg : List Stmt} {sg : Scope} {dV kV doc pm cdv ct oc : Value} {an od : Option Addr} {osl : Array (Option Value)} {Ng : List Str}
    {ar : Arguments} {body : Expr} {sc : Scope} {t : XK → TE} {p lpos pos : Pos} (hgl : Gl X x) (hm : X.mg x = some (.ref g)) (hk : PySem.W.keepIn X.K (.ref g) = true)
    (lk : X.K.lookup g = some ⟨oc, od, .func (PySem.W.fnOf x x pg bg sg dV kV doc pm an cdv ct), osl⟩) (hcg : PySem.W.codeIn X.K cdv x = true) (hb : L2.Binds X.K (PySem.W.fnOf x x pg bg sg dV kV doc pm an cdv ct) [a] []) (Sg : FnScope Ng [a] sg) (hNg : Ng[0]? = some a) (hva : Vis sg a)
    (hG : GivesG X Ng x sg g cdv bg a (X.env.qual ++ "<lambda>") TT)
    (TB : TabB X.base X.mg c P) (hcode : X.env.code = .ref c) (hmT : (P, X.env.qual ++ "<lambda>") ∈ T) (hu : ∀ p ∈ T, p.1 = P → p.2 = X.env.qual ++ "<lambda>") (hr : Room (k + 2) X.A) (hg : X.A.guards = some []) (L : LamS X.env.scope sc) (hdef : defaultsOf ar X.env = ([], []))
    (hbind : ∀ (q : Str) (cl : List (Str × Addr)) (pm cv ctv : Value), bindArgs (PySem.W.kla_fn "<lambda>" q ar body sc cl pm cv ctv) ⟨[], []⟩ = pure [])
    (hbody : ∀ (A : Around) (outer : List Env) (s : Shared) (H : Hp) (E : XK) (f c' : Addr), Room k (A.deeper (lamEnv X sc s.heap.objs.size f c')) → A.guards = some [] → PE (lamCx X A outer s H E sc f c') body (t E))
    (hdb : (x == ("__debug__" : Str)) = false) (hd : (a == ("__debug__" : Str)) = false) (hcd : (a == ("__classdict__" : Str)) = false) :
    PE X (.Call (.Name x p) [.Lambda ar body sc lpos] [] pos) (tLamG T TT t) := by
  refine ⟨fun pins s σ H Q I ⟨hT, h⟩ => ?_⟩
  refine wpAny_Call_Name_kw (ld_glob I hgl hm ?_ hdb)
  refine PySem.W.callWith_K (h₀ := X.base) I.ok.mod.kin hk ?_ (by rfl) (by rfl)
  show wpAny _ _ (spliced ((false, eval (.Lambda ar body sc lpos) X.env) :: backTo pos (starEach [] X.env))) _ _ s
  refine Calls.spliced_cons (lam_new I TB hcode hmT hu hT hdef (L.has I.ok) fun f c' pm' ctv H1 s' I1 eN T1 lv hf nf nfr hco => ?_)
  refine Calls.spliced_nil ⟨I1.kIn, ?_⟩
  have rc : codeAny (model X.prog X.w) X.A (.call (.ref g) ⟨[.ref f], []⟩) (CR C8.CX0 X.stack X.prog X.w H1 s' Q C8.E0) s' := by
    refine run_ofS (N := Ng) (ps := [a]) (us := [.ref f]) (vs := [.ref f]) lk hcg Sg hr I1.env0 (hb s' [.ref f] I1.kIn rfl) (.cons rfl .nil) rfl fun hr' => ?_
    obtain ⟨t', ht', hq'⟩ := hG f c' s' H1 Q (fun E H' Q' => t E σ H' Q') (fun W pn xe E p1 p2 tk hW => pe_actG (i := 0) I1 L hf nf nfr (hbind _ _ _ _ _) tk hW hr' hg (fun A outer s H hr2 hg2 => hbody A outer s H E f c' hr2 hg2) hNg hva hd hcd) hco (h H1 eN T1 lv)
    exact ⟨t', ht'.nox, hq'⟩
  refine wpAny_call (codeAny_mono rc fun r s2 hq => ?_)
  cases r with
  | error e => exact (show False from hq).elim
  | ok fl =>
    cases fl with
    | ret u => exact I1.after hq
    | next => exact False.elim hq
    | brk => exact False.elim hq
    | cont => exact False.elim hq
end
end Mn

-- Mn5
set_option Elab.async false
set_option linter.all false
set_option maxRecDepth 100000
set_option autoImplicit false
namespace Mn
open PySem PySem.Spec L2
section
variable {Ω : Wd} {N : List Str} {sc : Sk} {lv : Nat} {X : Cx} {fsp : Nat → Sp}
theorem cr_showG (g : Good Ω N sc lv X) (fx : Facts Ω fsp lv) : CallR X (.builtin "repr") (rShow Ω.K) := by
  rw [← g.K]
  refine cr_show ⟨g.grd, g.room.mono (Nat.zero_le _)⟩ ?_
  unfold SysOk
  rw [g.base]
  exact fx.sys
/-- f(e, ..), f a def of the text -/
theorem pe_callG {W : WX} {f : Nat} {e : E} {es : Es} {t : TA} {q pos : Pos} (g : Good Ω N sc lv X) (fx : Facts Ω fsp lv) (tk : Takes X W) (hf : f < Ω.Γ.fns.length) (hg : isGl sc.s (gname Ω.Γ.fns f) = true) (ha : PA X (up Ω.Γ N e :: ups Ω.Γ N es) t) :
    PE X (.Call (.Name (gname Ω.Γ.fns f) q) (up Ω.Γ N e :: ups Ω.Γ N es) [] pos) (fun σ H Q => t σ H fun vs H1 => fsp f vs H1 Q fun c d H' => W c d σ H') := by
  obtain ⟨gl, db⟩ := g.gl hg
  obtain ⟨m1, k1, F⟩ := fx.fns f hf
  refine ⟨fun pins s σ H Q I h => ?_⟩
  refine wpAny_Call_Name_kw (ld_glob I gl (by rw [g.mg]; exact m1) ?_ db)
  have hk : PySem.W.keepIn X.K (.ref (Ω.fa f)) = true := by rw [g.K]; exact k1
  exact PySem.W.callWith_K (h₀ := X.base) I.ok.mod.kin hk (thn (ha.run pos pins s σ H _ I h) fun us s1 ⟨vs, H1, I1, r, q⟩ => ⟨I1.kIn, run_fg g F tk I1 r q⟩) (star_up _ _ _) (stars_up _ _ _)
theorem pe_callG0 {W : WX} {f : Nat} {q pos : Pos} (g : Good Ω N sc lv X) (fx : Facts Ω fsp lv) (tk : Takes X W) (hf : f < Ω.Γ.fns.length) (hg : isGl sc.s (gname Ω.Γ.fns f) = true) :
    PE X (.Call (.Name (gname Ω.Γ.fns f) q) [] [] pos) (fun σ H Q => tNil σ H fun vs H1 => fsp f vs H1 Q fun c d H' => W c d σ H') := by
  obtain ⟨gl, db⟩ := g.gl hg
  obtain ⟨m1, k1, F⟩ := fx.fns f hf
  refine ⟨fun pins s σ H Q I h => ?_⟩
  refine wpAny_Call_Name_kw (ld_glob I gl (by rw [g.mg]; exact m1) ?_ db)
  exact PySem.W.callWith_K0 I.kIn (by rw [g.K]; exact k1) (run_fg (us := []) g F tk I .nil h)
theorem boot_bi (b : Bi) : bootBuiltins b.nm = some (match b with | .int => .type "int" | .tuple => .type "tuple" | .list => .type "list" | .len => .builtin "len" | .abs => .builtin "abs" | .max => .builtin "max" | .min => .builtin "min" | .divmod => .builtin "divmod" | .repr => .builtin "repr" | .all => .builtin "all" | .any => .builtin "any" | .sorted => .builtin "sorted") := by
  cases b <;> decide +kernel
theorem pe_biG {b : Bi} {e : E} {es : Es} {t : TA} {q pos : Pos} (g : Good Ω N sc lv X) (fx : Facts Ω fsp lv) (hg : isGl sc.s b.nm = true) (ha : PA X (up Ω.Γ N e :: ups Ω.Γ N es) t) :
    PE X (.Call (.Name b.nm q) (up Ω.Γ N e :: ups Ω.Γ N es) [] pos) (tCB (rBi Ω.K b) t) := by
  obtain ⟨gl, db⟩ := g.gl hg
  have hm : X.mg b.nm = none := by rw [g.mg]; exact fx.bis b
  have hv := boot_bi b
  have hc := g.calm
  have eK := g.K
  cases b with
  | int => exact pe_callTy call_int1 gl hm hv ha (by decide) db (star_up _ _ _) (stars_up _ _ _)
  | tuple => rw [← eK]; exact pe_callTy call_tuple_of gl hm hv ha (by decide) db (star_up _ _ _) (stars_up _ _ _)
  | list => rw [← eK]; exact pe_callTy call_list_of gl hm hv ha (by decide) db (star_up _ _ _) (stars_up _ _ _)
  | len => rw [← eK]; exact pe_callB call_len_seq gl hm hv ha (by decide) db (star_up _ _ _) (stars_up _ _ _)
  | abs => exact pe_callB call_abs gl hm hv ha (by decide) db (star_up _ _ _) (stars_up _ _ _)
  | max => rw [← eK]; exact pe_callB ((call_max2 hc).or (cr_max hc)) gl hm hv ha (by decide) db (star_up _ _ _) (stars_up _ _ _)
  | min => rw [← eK]; exact pe_callB ((call_min2 hc).or (cr_min hc)) gl hm hv ha (by decide) db (star_up _ _ _) (stars_up _ _ _)
  | divmod => exact pe_callB call_divmod gl hm hv ha (by decide) db (star_up _ _ _) (stars_up _ _ _)
  | repr => exact pe_callB (cr_showG g fx) gl hm hv ha (by decide) db (star_up _ _ _) (stars_up _ _ _)
  | all => rw [← eK]; exact pe_callB (cr_all hc) gl hm hv ha (by decide) db (star_up _ _ _) (stars_up _ _ _)
  | any => rw [← eK]; exact pe_callB (cr_any hc) gl hm hv ha (by decide) db (star_up _ _ _) (stars_up _ _ _)
  | sorted => exact pe_callB (fun _ _ _ _ _ _ _ _ _ h => h.elim) gl hm hv ha (by decide) db (star_up _ _ _) (stars_up _ _ _)
/-- a built-in class as a value -/
theorem pe_ty {t : String} {p : Pos} (g : Good Ω N sc lv X) (fx : Facts Ω fsp lv) (hg : isGl sc.s (Str.ofString t) = true) (hb : bootBuiltins (Str.ofString t) = some (.type t)) (hn : Str.ofString t ≠ "__name__") : PE X (.Name (Str.ofString t) p) (tC (.ty t)) := by
  obtain ⟨gl, db⟩ := g.gl hg
  exact pe_bltn gl (by rw [g.mg]; exact fx.tys t hb) hb rfl hn db
theorem star_name (x : Str) (p : Pos) (es : List Expr) (env : Env) : starEach (.Name x p :: es) env = (false, eval (.Name x p) env) :: starEach es env := rfl
theorem pa_tys (g : Good Ω N sc lv X) (fx : Facts Ω fsp lv) : ∀ ts : List (String × Pos), (ts.all fun t => isGl sc.s (Str.ofString t.1) && decide (bootBuiltins (Str.ofString t.1) = some (.type t.1)) && decide (Str.ofString t.1 ≠ "__name__")) = true →
    PA X (ts.map fun t => .Name (Str.ofString t.1) t.2) (tTys (ts.map (·.1)))
  | [], _ => pa_nil
  | t :: ts, h => by
    simp only [List.all_cons, Bool.and_eq_true, decide_eq_true_eq] at h
    obtain ⟨⟨⟨h1, h2⟩, h3⟩, h4⟩ := h
    exact pa_cons (pe_ty g fx h1 h2 h3) (pa_tys g fx ts (by simpa only [Bool.and_eq_true, decide_eq_true_eq] using h4)) (star_name _ _ _ _)
theorem blk_good {s : Shared} {H : Hp} {sc' : Scope} {C : Addr} {cl : List (Str × Addr)} {fp : List Addr} (g : Good Ω N sc lv X) : Good Ω N ⟨relS sc' sc.s, false⟩ lv (X.blk s H sc' (compEnvC sc' cl C X.env) fp) :=
  ⟨g.P, g.w, g.K, g.mg, g.base, g.N, g.nd, by rw [← g.sc]; rfl, (fun z => by cases z), g.calm, g.room, g.grd, PassesOwn.never⟩
end

section
variable {Ω : Wd} {N : List Str} {lv : Nat} {fsp : Nat → Sp} {tsp : (XK → TE) → TE}
def PLs (X : Cx) : List Expr → List TE → Prop
  | e :: es, t :: ts => PE X e t ∧ PLs X es ts
  | [], [] => True
  | _, _ => False
/-- keywords, each with its name -/
structure PKs (X : Cx) (kws : List Keyword) (ks : List Str) (t : TA) : Prop where
  pk : PK X kws t
  all : ∀ pos, (backToKw pos (keywordEach kws X.env)).all (·.1.isSome) = true
  nms : ∀ pos, (backToKw pos (keywordEach kws X.env)).filterMap (·.1) = ks
  any : ∀ pos, (backToKw pos (keywordEach kws X.env)).any (·.1.isNone) = false
theorem PKs.cons {X : Cx} {kws : List Keyword} {ks : List Str} {t : TA} {k : Str} {e : Expr} {p : Pos} {te : TE} (h : PE X e te) (r : PKs X kws ks t) : PKs X (⟨some k, e, p⟩ :: kws) (k :: ks) (tCons te t) :=
  ⟨pk_cons h r.pk, fun pos => r.all pos, fun pos => congrArg (k :: ·) (r.nms pos), fun pos => r.any pos⟩
theorem pe_callKG {sc : Sk} {X : Cx} {W : WX} {f : Nat} {ks : List Str} {kws : List Keyword} {t : TA} {q pos : Pos} (g : Good Ω N sc lv X) (fx : Facts Ω fsp lv) (tk : Takes X W) (hf : f < Ω.Γ.fns.length) (hg : isGl sc.s (gname Ω.Γ.fns f) = true) (hk : (f, ks) ∈ Ω.Γ.kws) (pk : PKs X kws ks t) :
    PE X (.Call (.Name (gname Ω.Γ.fns f) q) [] kws pos) (fun σ H Q => t σ H fun vs H1 => fsp f vs H1 Q fun c d H' => W c d σ H') := by
  obtain ⟨gl, db⟩ := g.gl hg
  obtain ⟨m1, k1, _⟩ := fx.fns f hf
  refine ⟨fun pins s σ H Q I h => ?_⟩
  refine wpAny_Call_Name_kw (ld_glob I gl (by rw [g.mg]; exact m1) ?_ db)
  refine PySem.W.callWith_KW0 (h₀ := X.base) I.ok.mod.kin (by rw [g.K]; exact k1) (pk.all pos) (thn (pk.pk.run pos pins s σ H _ I h) fun ws s2 ⟨zs, H2, I2, rz, q2⟩ => ⟨I2.kIn, ?_⟩) (pk.any pos)
  rw [pk.nms pos]
  exact run_fg g (fx.kws _ hk) tk I2 rz q2
theorem lam_good {sc : Sk} {X : Cx} {A : Around} {outer : List Env} {s : Shared} {H : Hp} {E : XK} {scope : Scope} {f c' : Addr} (g : Good Ω N sc lv X) (hr : Room lv (A.deeper (LamX.lamEnv X scope s.heap.objs.size f c'))) (hg : A.guards = some []) : Good Ω N ⟨scope, false⟩ lv (LamX.lamCx X A outer s H E scope f c') :=
  ⟨g.P, g.w, g.K, g.mg, g.base, g.N, g.nd, rfl, (fun z => by cases z), rfl, hr, hg, passes_of (X := LamX.lamCx X A outer s H E scope f c') rfl⟩
theorem pt_of {X : Cx} {e : Expr} {t : TE} (h : PE X e t) (he : ∀ whole, isTrue e X.env whole = (do let v ← whole; standAt e.pos; holding [v] (truthy v))) : PT X e (tB t) := pt_val h he
mutual
theorem peE (fx : Facts Ω fsp lv) (tl : TellOk Ω N lv tsp) : ∀ (e : E) (sc : Sk), wfE Ω.Γ N sc e = true → ∀ (X : Cx) (W : WX), Good Ω N sc lv X → Takes X W →
    PE X (up Ω.Γ N e) (rd Ω.P Ω.w Ω.K Ω.gv fsp tsp e W).1 ∧ PT X (up Ω.Γ N e) (rd Ω.P Ω.w Ω.K Ω.gv fsp tsp e W).2
  | .var i p, sc, h, X, W, g, tk => by
    simp only [wfE, Bool.and_eq_true, decide_eq_true_eq] at h
    obtain ⟨v1, v2, v3⟩ := g.vis h.2
    simp only [up, rd]
    have z := pe_var (X := X) (i := i) (pos := p) (by rw [g.N]; exact gname_at h.1) v1 v2 v3
    exact ⟨z, pt_of z fun _ => rfl⟩
  | .con c k p, sc, h, X, W, g, tk => by
    simp only [up, rd]
    have z : PE X (.Constant c k p) (tC (cV c)) := by
      cases c with
      | int i => exact pe_int
      | str x => exact pe_str
      | bool b => exact pe_bl
      | none => exact pe_non
      | _ => cases h
    exact ⟨z, pt_of z fun _ => rfl⟩
  | .glo i p, sc, h, X, W, g, tk => by
    simp only [wfE, Bool.and_eq_true, decide_eq_true_eq] at h
    obtain ⟨gl, db⟩ := g.gl h.2
    obtain ⟨u, m1, r⟩ := fx.gls i h.1
    simp only [up, rd]
    have z := pe_glob (X := X) (pos := p) gl (by rw [g.mg]; exact m1) r db
    exact ⟨z, pt_of z fun _ => rfl⟩
  | .bin op a b p, sc, h, X, W, g, tk => by
    simp only [wfE, Bool.and_eq_true] at h
    simp only [up, rd]
    have z := pe_op (pos := p) (op_bin op) (peE fx tl a sc h.1 X W g tk).1 (peE fx tl b sc h.2 X W g tk).1
    exact ⟨z, pt_of z fun _ => rfl⟩
  | .neg a p, sc, h, X, W, g, tk => by
    simp only [wfE] at h
    simp only [up, rd]
    have z := pe_un (pos := p) un_neg (peE fx tl a sc h X W g tk).1
    exact ⟨z, pt_of z fun _ => rfl⟩
  | .nt a p, sc, h, X, W, g, tk => by
    simp only [wfE] at h
    simp only [up, rd]
    obtain ⟨z1, z2⟩ := peE fx tl a sc h X W g tk
    exact ⟨pe_not z1, pt_not z2⟩
  | .bop op es p, sc, h, X, W, g, tk => by
    simp only [wfE] at h
    simp only [up, rd]
    obtain ⟨z1, z2⟩ := peB fx tl op es sc h X W g tk p
    exact ⟨z1, z2.pt⟩
  | .cmp op a b p, sc, h, X, W, g, tk => by
    simp only [wfE, Bool.and_eq_true] at h
    simp only [up, rd]
    have z1 := (peE fx tl a sc h.1 X W g tk).1
    have z2 := (peE fx tl b sc h.2 X W g tk).1
    exact ⟨pe_cmpR (op_cmp g op) z1 z2 (mark_up op _ _ b), pt_cmpR (op_cmp g op) z1 z2 (mark_up op _ _ b)⟩
  | .ife c a b p, sc, h, X, W, g, tk => by
    simp only [wfE, Bool.and_eq_true] at h
    simp only [up, rd]
    exact ⟨pe_ifExp (peE fx tl c sc h.1.1 X W g tk).2 (peE fx tl a sc h.1.2 X W g tk).1 (peE fx tl b sc h.2 X W g tk).1, ⟨fun _ _ _ _ _ _ z => z.elim⟩⟩
  | .lst es p, sc, h, X, W, g, tk => by
    simp only [wfE] at h
    simp only [up, rd]
    have z := pe_lst (pos := p) (peA fx tl es sc h X W g tk)
    exact ⟨z, pt_of z fun _ => rfl⟩
  | .tup es k p, sc, h, X, W, g, tk => by
    simp only [wfE] at h
    simp only [up, rd]
    have z := pe_tup (pos := p) (x1 := k) (peA fx tl es sc h X W g tk)
    exact ⟨z, pt_of z fun _ => rfl⟩
  | .dis .nil p, sc, h, X, W, g, tk => by
    simp only [up, upk, upv, rd]
    have z := pe_dnewK (X := X) (pos := p)
    exact ⟨z, pt_of z fun _ => rfl⟩
  | .dis (.cons k v ps) p, sc, h, X, W, g, tk => by
    simp only [wfE, wfP, plen, Bool.and_eq_true, decide_eq_true_eq] at h
    obtain ⟨⟨⟨h1, h2⟩, h3⟩, h4⟩ := h
    obtain ⟨r1, r2, r3⟩ := peP fx tl ps sc h3 X W g tk p
    simp only [up, upk, upv, rd]
    have z := pe_disp (pos := p) (pps_cons (peE fx tl k sc h1 X W g tk).1 (peE fx tl v sc h2 X W g tk).1 r1) (by simp only [List.all_cons, r2]; rfl) (by simp only [List.length_cons, r3.1, r3.2]) (fun q => by cases q)
      (by rw [List.length_cons, r3.1]; exact of_decide_eq_true h4)
    exact ⟨z, pt_of z fun _ => rfl⟩
  | .idx a b p, sc, h, X, W, g, tk => by
    simp only [wfE, Bool.and_eq_true] at h
    simp only [up, rd]
    have ix : IxR X (rIx Ω.K) := by rw [← g.K]; exact ix_seq
    have z := pe_ix (pos := p) ix (peE fx tl a sc h.1 X W g tk).1 (peE fx tl b sc h.2 X W g tk).1 (plain_up b)
    exact ⟨z, pt_of z fun _ => rfl⟩
  | .sli a lo hi q p, sc, h, X, W, g, tk => by
    simp only [wfE, Bool.and_eq_true] at h
    simp only [up, rd]
    have sl : SlR X (rSlL Ω.K) := by rw [← g.K]; exact sl_list
    have z := pe_slice (pos := p) (p2 := q) sl (peE fx tl a sc h.1.1 X W g tk).1 (peO fx tl lo sc h.1.2 X W g tk) (peO fx tl hi sc h.2 X W g tk)
    exact ⟨z, pt_of z fun _ => rfl⟩
  | .rev a k p1 p2 q p, sc, h, X, W, g, tk => by
    simp only [wfE] at h
    simp only [up, rd]
    have z := pe_revL (k := k) (p1 := p1) (p2 := p2) (p3 := q) (pos := p) (peE fx tl a sc h X W g tk).1
    rw [g.K] at z
    exact ⟨z, pt_of z fun _ => rfl⟩
  | .call f q .nil p, sc, h, X, W, g, tk => by
    simp only [wfE, Bool.and_eq_true, decide_eq_true_eq] at h
    simp only [up, ups, rd, rdA]
    have z := pe_callG0 (q := q) (pos := p) g fx tk h.1.2 h.2
    exact ⟨z, pt_of z fun _ => rfl⟩
  | .call f q (.cons e es) p, sc, h, X, W, g, tk => by
    simp only [wfE, wfs, Bool.and_eq_true, decide_eq_true_eq] at h
    simp only [up, ups, rd, rdA]
    have z := pe_callG (q := q) (pos := p) g fx tk h.1.2 h.2 (pa_cons (peE fx tl e sc h.1.1.1 X W g tk).1 (peA fx tl es sc h.1.1.2 X W g tk) (star_up _ _ _))
    exact ⟨z, pt_of z fun _ => rfl⟩
  | .bi b q (.cons e es) p, sc, h, X, W, g, tk => by
    simp only [wfE, wfs, Bool.and_eq_true, decide_eq_true_eq] at h
    simp only [up, ups, rd, rdA]
    have z := pe_biG (q := q) (pos := p) g fx h.2 (pa_cons (peE fx tl e sc h.1.1.1 X W g tk).1 (peA fx tl es sc h.1.1.2 X W g tk) (star_up _ _ _))
    exact ⟨z, pt_of z fun _ => rfl⟩
  | .isi a t tp q p, sc, h, X, W, g, tk => by
    simp only [wfE, Bool.and_eq_true, decide_eq_true_eq] at h
    obtain ⟨⟨⟨⟨h1, h2⟩, h3⟩, h4⟩, h5⟩ := h
    obtain ⟨gl, db⟩ := g.gl h2
    simp only [up, rd]
    have z := pe_callB (X := X) (p := q) (pos := p) call_isi gl (by rw [g.mg]; exact fx.isi) (by decide +kernel) (pa_cons (peE fx tl a sc h1 X W g tk).1 (pa_cons (pe_ty (p := tp) g fx h3 h4 h5) pa_nil (star_name _ _ _ _)) (star_up _ _ _)) (by decide) db (star_up _ _ _) (by rw [star_name]; rfl)
    rw [g.K] at z
    exact ⟨z, pt_of z fun _ => rfl⟩
  | .isiT a ts k tp q p, sc, h, X, W, g, tk => by
    simp only [wfE, Bool.and_eq_true] at h
    obtain ⟨⟨h1, h2⟩, h3⟩ := h
    obtain ⟨gl, db⟩ := g.gl h2
    simp only [up, rd]
    have z := pe_callB (X := X) (p := q) (pos := p) call_isiT gl (by rw [g.mg]; exact fx.isi) (by decide +kernel) (pa_cons (peE fx tl a sc h1 X W g tk).1 (pa_cons (pe_tup (x1 := k) (pos := tp) (pa_tys g fx ts h3)) pa_nil rfl) (star_up _ _ _)) (by decide) db (star_up _ _ _) rfl
    rw [g.K] at z
    exact ⟨z, pt_of z fun _ => rfl⟩
  | .lc elt x xp it c sc' p, sc, h, X, W, g, tk => by
    simp only [wfE, Bool.and_eq_true, decide_eq_true_eq] at h
    obtain ⟨⟨⟨⟨⟨h1, h2⟩, h3⟩, h4⟩, h5⟩, h6⟩ := h
    simp only [up, rd]
    have ok := blkOk_by h3
    rw [← g.N, ← g.sc] at ok
    have z := pe_lc (X := X) (pos := p) (own := [(gname N x, x)]) (g := gName x) g.calm g.nd (peI fx tl it sc h1 X W0 g LamX.takes0 (.Name (gname N x) xp)) (by rw [g.N] at ok ⊢; exact ok)
      (fun s H C cl fp => pg_name (X := X.blk s H sc' (compEnvC sc' cl C X.env) fp) (pos := xp) g.nd (by rw [g.N]; exact gname_at h2) (.inl (by rw [(blk_good g).sc]; exact h4)) (.inr (by rw [(blk_good g).sc]; exact h4)))
      (fun s H C cl fp => peC fx tl c _ h6 _ W0 (blk_good g) LamX.takes0)
      (fun s H C cl fp => (peE fx tl elt _ h5 _ W0 (blk_good g) LamX.takes0).1) (fun _ => by cases it <;> first | rfl | (rename_i e; cases e <;> (simp only [upi, up]; rfl)))
    exact ⟨z, pt_of z fun _ => rfl⟩
  | .me m o q es p, sc, h, X, W, g, tk => by
    simp only [wfE, Bool.and_eq_true, decide_eq_true_eq] at h
    obtain ⟨⟨⟨⟨⟨h1, h2⟩, h3⟩, h4⟩, h5⟩, h6⟩ := h
    have zo := (peE fx tl o sc h1 X W g tk).1
    have zs := peL fx tl es sc h2 X W g tk
    have z : PE X (.Call (.Attribute (up Ω.Γ N o) m.nm q) (ups Ω.Γ N es) [] p) (rdMe Ω.K m (rd Ω.P Ω.w Ω.K Ω.gv fsp tsp o W).1 (rdL Ω.P Ω.w Ω.K Ω.gv fsp tsp es W)) := by
      have few : ∀ es : Es, decide (elen es < 29) = true → ((backTo p (starEach (ups Ω.Γ N es) X.env)).all (fun x => !x.1) && (backToKw p (keywordEach [] X.env)).all (fun x => x.1.isSome) && decide ((ups Ω.Γ N es).length + ([] : List Keyword).length + (if ([] : List Keyword).isEmpty then 0 else 1) < 30)) = true := fun es h => by
        rw [starsN_up, ups_len]
        have h' := of_decide_eq_true h
        show (true && true && decide (elen es + 0 + 0 < 30)) = true
        rw [decide_eq_true (by omega)] <;> rfl
      have f4 := few es (decide_eq_true h4)
      cases m with
      | append =>
        cases es with
        | nil => cases h5
        | cons a es =>
          cases es with
          | nil =>
            obtain ⟨z1, _⟩ := zs
            simp only [ups, rdL, rdMe, Me.nm] at z1 f4 ⊢
            have z := pe_bm (X := X) (apos := q) (cpos := p) PySem.F.plainAttrs_list PySem.F.slot_list_append PySem.F.type_list_append mt_append zo (pa_cons z1 pa_nil (star_up _ _ _)) (base_up _ _ _ _ h6) f4 h3 (star_up _ _ _) rfl
            rw [g.K] at z
            exact z
          | cons b es => simp [elen] at h5
      | insert =>
        cases es with
        | nil => cases h5
        | cons a es =>
          cases es with
          | nil => cases h5
          | cons b es =>
            cases es with
            | nil =>
              obtain ⟨z1, z2, _⟩ := zs
              simp only [ups, rdL, rdMe, Me.nm] at z1 z2 f4 ⊢
              have z := pe_bm (X := X) (apos := q) (cpos := p) PySem.F.plainAttrs_list PySem.F.slot_list_insert PySem.F.type_list_insert mt_insert zo (pa_cons z1 (pa_cons z2 pa_nil (star_up _ _ _)) (star_up _ _ _)) (base_up _ _ _ _ h6) f4 h3 (star_up _ _ _) (by rw [star_up]; rfl)
              rw [g.K] at z
              exact z
            | cons c es => simp [elen] at h5
      | get =>
        cases es with
        | nil => cases h5
        | cons a es =>
          cases es with
          | nil => cases h5
          | cons b es =>
            cases es with
            | nil =>
              obtain ⟨z1, z2, _⟩ := zs
              simp only [ups, rdL, rdMe, Me.nm] at z1 z2 f4 ⊢
              exact pe_dget2 (hu_of g.room) zo z1 z2 ⟨base_up _ _ _ _ h6, f4, h3, by rw [star_up, star_up]; rfl⟩
            | cons c es => simp [elen] at h5
    simp only [up, rd]
    exact ⟨z, pt_of z fun _ => rfl⟩
  | .bi b q .nil p, sc, h, X, W, g, tk => by simp only [wfE, elen, Bool.and_eq_true, decide_eq_true_eq] at h; exact absurd (of_decide_eq_true h.1.2) (Nat.lt_irrefl _)
  | .callk f q ks es p, sc, h, X, W, g, tk => by
    simp only [wfE, Bool.and_eq_true, decide_eq_true_eq] at h
    obtain ⟨⟨⟨⟨h1, h2⟩, h3⟩, h4⟩, h5⟩ := h
    simp only [up, rd]
    have z := pe_callKG (q := q) (pos := p) g fx tk h2 h3 h5 (peK fx tl ks es sc h1 X W g tk h4)
    exact ⟨z, pt_of z fun _ => rfl⟩
  | .srt q elt x xp it c sc' p1 p, sc, h, X, W, g, tk => by
    simp only [wfE, Bool.and_eq_true, decide_eq_true_eq] at h
    obtain ⟨⟨⟨⟨⟨⟨h0, h1⟩, h2⟩, h3⟩, h4⟩, h5⟩, h6⟩ := h
    obtain ⟨gl, db⟩ := g.gl h0
    simp only [up, rd]
    have ok := blkOk_by h3
    rw [← g.N, ← g.sc] at ok
    have z1 := pe_sk (X := X) (k := kitI X.prog X.w) (pos := p1) (own := [(gname N x, x)]) (g := gName x) g.calm g.nd (peI fx tl it sc h1 X W0 g LamX.takes0 (.Name (gname N x) xp)) (by rw [g.N] at ok ⊢; exact ok)
      (fun s H C cl fp => pg_name (X := X.blk s H sc' (compEnvC sc' cl C X.env) fp) (pos := xp) g.nd (by rw [g.N]; exact gname_at h2) (.inl (by rw [(blk_good g).sc]; exact h4)) (.inr (by rw [(blk_good g).sc]; exact h4)))
      (fun s H C cl fp => peC fx tl c _ h6 _ W0 (blk_good g) LamX.takes0)
      (fun s H C cl fp => (peE fx tl elt _ h5 _ W0 (blk_good g) LamX.takes0).1) (fun _ => by cases it <;> first | rfl | (rename_i e; cases e <;> (simp only [upi, up]; rfl)))
    have z := pe_callB (X := X) (p := q) (pos := p) (cr_sortedSet g.calm) gl (by rw [g.mg]; exact fx.bis .sorted) (by decide +kernel) (pa_cons z1 pa_nil rfl) (by decide) db rfl rfl
    rw [g.P, g.w] at z
    exact ⟨z, pt_of z fun _ => rfl⟩
  | .srs q1 q2 e p1 p, sc, h, X, W, g, tk => by
    simp only [wfE, Bool.and_eq_true] at h
    obtain ⟨⟨h0, h1⟩, h2⟩ := h
    obtain ⟨gl, db⟩ := g.gl h0
    obtain ⟨gl2, db2⟩ := g.gl h1
    simp only [up, rd]
    have z1 := pe_callTy (X := X) (p := q2) (pos := p1) (cr_setI g.calm) gl2 (by rw [g.mg]; exact fx.set) (by decide +kernel) (pa_cons (peE fx tl e sc h2 X W g tk).1 pa_nil (star_up _ _ _)) (by decide) db2 (star_up _ _ _) rfl
    have z := pe_callB (X := X) (p := q1) (pos := p) (cr_sortedSet g.calm) gl (by rw [g.mg]; exact fx.bis .sorted) (by decide +kernel) (pa_cons z1 pa_nil rfl) (by decide) db rfl rfl
    rw [g.w, g.K] at z
    exact ⟨z, pt_of z fun _ => rfl⟩
  | .told f q body ar scope lp p, sc, h, X, W, g, tk => by
    simp only [wfE, Bool.and_eq_true, decide_eq_true_eq] at h
    obtain ⟨⟨⟨⟨⟨h1, h2⟩, h3⟩, h4⟩, h5⟩, h6⟩ := h
    simp only [up, rd]
    rw [h1]
    have ls := LamX.lamS_by h4
    rw [← g.sc] at ls
    have z := tl sc X g h3 ar (up Ω.Γ N body) scope (fun E => (rd Ω.P Ω.w Ω.K Ω.gv fsp tsp body fun c d _ H => E c d H).1) q lp p h2 ls h5 fun A outer s H E f c' hr hg =>
      (peE fx tl body ⟨scope, false⟩ h6 _ _ (lam_good g hr hg) (takes_of rfl rfl rfl rfl)).1
    exact ⟨z, pt_of z fun _ => rfl⟩
theorem peA (fx : Facts Ω fsp lv) (tl : TellOk Ω N lv tsp) : ∀ (es : Es) (sc : Sk), wfs Ω.Γ N sc es = true → ∀ (X : Cx) (W : WX), Good Ω N sc lv X → Takes X W → PA X (ups Ω.Γ N es) (rdA Ω.P Ω.w Ω.K Ω.gv fsp tsp es W)
  | .nil, sc, h, X, W, g, tk => by simp only [ups, rdA]; exact pa_nil
  | .cons e es, sc, h, X, W, g, tk => by
    simp only [wfs, Bool.and_eq_true] at h
    simp only [ups, rdA]
    exact pa_cons (peE fx tl e sc h.1 X W g tk).1 (peA fx tl es sc h.2 X W g tk) (star_up _ _ _)
theorem peK (fx : Facts Ω fsp lv) (tl : TellOk Ω N lv tsp) : ∀ (ks : List (Str × Pos)) (es : Es) (sc : Sk), wfs Ω.Γ N sc es = true → ∀ (X : Cx) (W : WX), Good Ω N sc lv X → Takes X W → ks.length = elen es → PKs X ((ks.zip (ups Ω.Γ N es)).map fun x => ⟨some x.1.1, x.2, x.1.2⟩) (ks.map (·.1)) (rdA Ω.P Ω.w Ω.K Ω.gv fsp tsp es W)
  | [], .nil, sc, h, X, W, g, tk, hl => by simp only [ups, rdA]; exact ⟨pk_nil, fun _ => rfl, fun _ => rfl, fun _ => rfl⟩
  | k :: ks, .cons e es, sc, h, X, W, g, tk, hl => by
    simp only [wfs, Bool.and_eq_true] at h
    obtain ⟨r1, r2, r3, r4⟩ := peK fx tl ks es sc h.2 X W g tk (by simpa [elen] using hl)
    simp only [ups, rdA, List.zip_cons_cons, List.map_cons]
    exact PKs.cons (peE fx tl e sc h.1 X W g tk).1 ⟨r1, r2, r3, r4⟩
  | [], .cons e es, sc, h, X, W, g, tk, hl => by simp [elen] at hl
  | k :: ks, .nil, sc, h, X, W, g, tk, hl => by simp [elen] at hl
theorem peL (fx : Facts Ω fsp lv) (tl : TellOk Ω N lv tsp) : ∀ (es : Es) (sc : Sk), wfs Ω.Γ N sc es = true → ∀ (X : Cx) (W : WX), Good Ω N sc lv X → Takes X W → PLs X (ups Ω.Γ N es) (rdL Ω.P Ω.w Ω.K Ω.gv fsp tsp es W)
  | .nil, sc, h, X, W, g, tk => by simp only [ups, rdL]; exact True.intro
  | .cons e es, sc, h, X, W, g, tk => by
    simp only [wfs, Bool.and_eq_true] at h
    simp only [ups, rdL]
    exact ⟨(peE fx tl e sc h.1 X W g tk).1, peL fx tl es sc h.2 X W g tk⟩
theorem peB (fx : Facts Ω fsp lv) (tl : TellOk Ω N lv tsp) (op : BoolOp) : ∀ (es : Es) (sc : Sk), wfB Ω.Γ N sc es = true → ∀ (X : Cx) (W : WX), Good Ω N sc lv X → Takes X W → ∀ p : Pos,
    PE X (.BoolOp op (ups Ω.Γ N es) p) (rdB Ω.P Ω.w Ω.K Ω.gv fsp tsp op es W).1 ∧ PW X (.BoolOp op (ups Ω.Γ N es) p) (rdB Ω.P Ω.w Ω.K Ω.gv fsp tsp op es W).2
  | .nil, sc, h, X, W, g, tk, p => by simp [wfB] at h
  | .cons e .nil, sc, h, X, W, g, tk, p => by
    simp only [wfB] at h
    obtain ⟨z1, z2⟩ := peE fx tl e sc h X W g tk
    simp only [ups, rdB]
    cases op with
    | And => exact ⟨pe_one z1, pw_and1 z2⟩
    | Or => exact ⟨pe_one z1, pw_or1 z2⟩
  | .cons e (.cons e2 es), sc, h, X, W, g, tk, p => by
    simp only [wfB, Bool.and_eq_true] at h
    obtain ⟨z1, z2⟩ := peE fx tl e sc h.1 X W g tk
    obtain ⟨y1, y2⟩ := peB fx tl op (.cons e2 es) sc (by simpa only [wfB] using h.2) X W g tk p
    simp only [ups] at y1 y2 ⊢
    cases op with
    | And => simp only [rdB]; exact ⟨pe_and z1 y1, pw_and z2 y2⟩
    | Or => simp only [rdB]; exact ⟨pe_or z1 y1, pw_or z2 y2⟩
theorem peC (fx : Facts Ω fsp lv) (tl : TellOk Ω N lv tsp) : ∀ (es : Es) (sc : Sk), wfC Ω.Γ N sc es = true → ∀ (X : Cx) (W : WX), Good Ω N sc lv X → Takes X W → PTs X (ups Ω.Γ N es) (rdC Ω.P Ω.w Ω.K Ω.gv fsp tsp es W)
  | .nil, sc, h, X, W, g, tk => by simp only [ups, rdC]; exact pts_nil
  | .cons e .nil, sc, h, X, W, g, tk => by
    simp only [wfC] at h
    simp only [ups, rdC]
    exact pts_one (peE fx tl e sc h X W g tk).2
  | .cons e (.cons e2 es), sc, h, X, W, g, tk => by simp [wfC] at h
theorem peO (fx : Facts Ω fsp lv) (tl : TellOk Ω N lv tsp) : ∀ (o : Option E) (sc : Sk), wfO Ω.Γ N sc o = true → ∀ (X : Cx) (W : WX), Good Ω N sc lv X → Takes X W → PO X (upo Ω.Γ N o) (rdO Ω.P Ω.w Ω.K Ω.gv fsp tsp o W)
  | none, sc, h, X, W, g, tk => by simp only [upo, rdO]; exact po_none
  | some e, sc, h, X, W, g, tk => by
    simp only [wfO] at h
    simp only [upo, rdO]
    exact po_some (peE fx tl e sc h X W g tk).1
theorem peP (fx : Facts Ω fsp lv) (tl : TellOk Ω N lv tsp) : ∀ (ps : Ps) (sc : Sk), wfP Ω.Γ N sc ps = true → ∀ (X : Cx) (W : WX), Good Ω N sc lv X → Takes X W → ∀ p : Pos, PPs X p (upk Ω.Γ N ps) (upv Ω.Γ N ps) (rdP Ω.P Ω.w Ω.K Ω.gv fsp tsp ps W) ∧
    (upk Ω.Γ N ps).all (·.isSome) = true ∧ (upk Ω.Γ N ps).length = plen ps ∧ (upv Ω.Γ N ps).length = plen ps
  | .nil, sc, h, X, W, g, tk, p => by simp only [upk, upv, rdP]; exact ⟨pps_nil, rfl, rfl, rfl⟩
  | .cons k v ps, sc, h, X, W, g, tk, p => by
    simp only [wfP, Bool.and_eq_true] at h
    obtain ⟨r1, r2, r3, r4⟩ := peP fx tl ps sc h.2 X W g tk p
    simp only [upk, upv, rdP]
    exact ⟨pps_cons (peE fx tl k sc h.1.1 X W g tk).1 (peE fx tl v sc h.1.2 X W g tk).1 r1, by simp only [List.all_cons, r2]; rfl, by simp only [List.length_cons, r3, plen], by simp only [List.length_cons, r4, plen]⟩
theorem peI (fx : Facts Ω fsp lv) (tl : TellOk Ω N lv tsp) : ∀ (it : It) (sc : Sk), wfI Ω.Γ N sc it = true → ∀ (X : Cx) (W : WX), Good Ω N sc lv X → Takes X W → ∀ tg : Expr, PI X tg (upi Ω.Γ N it) (rdI Ω.P Ω.w Ω.K Ω.gv fsp tsp it W)
  | .seq e, sc, h, X, W, g, tk, tg => by
    simp only [wfI] at h
    simp only [upi, rdI]
    exact iseq_ok g (peE fx tl e sc h X W g tk).1
  | .rng1 q e p, sc, h, X, W, g, tk, tg => by
    simp only [wfI, Bool.and_eq_true] at h
    obtain ⟨gl, db⟩ := g.gl h.2
    simp only [upi, rdI]
    exact pi_range1 gl (by rw [g.mg]; exact fx.rng) (pa_cons (peE fx tl e sc h.1 X W g tk).1 pa_nil (star_up _ _ _)) (star_up _ _ _)
  | .rng2 q a b p, sc, h, X, W, g, tk, tg => by
    simp only [wfI, Bool.and_eq_true] at h
    obtain ⟨gl, db⟩ := g.gl h.2
    simp only [upi, rdI]
    exact pi_range2 gl (by rw [g.mg]; exact fx.rng) (pa_cons (peE fx tl a sc h.1.1 X W g tk).1 (pa_cons (peE fx tl b sc h.1.2 X W g tk).1 pa_nil (star_up _ _ _)) (star_up _ _ _)) (by rw [star_up, star_up]; rfl) (star_up _ _ _)
end
end
end Mn

-- Mn16
set_option Elab.async false
set_option linter.all false
set_option maxRecDepth 100000
set_option maxHeartbeats 1000000
set_option autoImplicit false
namespace Mn
open PySem PySem.Spec L2

/-! ## statements: the readings -/
/-- raise C(e): the error's dict is new -/
def tRaise (C : Addr) (te : TE) (W : WX) : TS := fun _ σ H => te σ H fun v H1 => ∀ d, H1 d = none → W (.ref C) (some d) σ (upd H1 d (.xd [("value", v)]))
section
variable (P : Program) (w : World) (K : PySem.W.Frag) (gv : Nat → V) (ca : Nat → Addr) (fsp : Nat → Sp) (tsp : (XK → TE) → TE)
def rdT (W : WX) : Tg → TG
  | .nm i _ => gName i
  | .sub o i _ => gSub (rd P w K gv fsp tsp o W).1 (rd P w K gv fsp tsp i W).1 rSetL
mutual
def rdS : S → WX → TS
  | .asg i _ e _, W => tAsg (rd P w K gv fsp tsp e W).1 (gName i)
  | .par i j _ _ _ _ a b _ _ _, W => tPar i j (tCons (rd P w K gv fsp tsp a W).1 (tCons (rd P w K gv fsp tsp b W).1 tNil))
  | .unp t1 t2 _ _ e _, W => tAsg (rd P w K gv fsp tsp e W).1 (gTup K 2 (gCons (rdT P w K gv fsp tsp W t1) (gCons (rdT P w K gv fsp tsp W t2) gNil)))
  | .sub o i _ e _, W => tAsg (rd P w K gv fsp tsp e W).1 (gSub (rd P w K gv fsp tsp o W).1 (rd P w K gv fsp tsp i W).1 rSetL)
  | .exp e _, W => tDrop (rd P w K gv fsp tsp e W).1
  | .ret e _, W => tRet (rd P w K gv fsp tsp e W).1
  | .iff c a b _, W => tIfS (rd P w K gv fsp tsp c W).2 (rdSs a W) (rdSs b W)
  | .fr x _ it b _, W => tFor (rdI P w K gv fsp tsp it W) (gName x) (rdSs b W)
  | .raise c _ e _ _, W => tRaise (ca c) (rd P w K gv fsp tsp e W).1 W
def rdSs : Ss → WX → TS
  | .nil, _ => tNext
  | .cons s ss, W => tSeq (rdS s W) (rdSs ss W)
end
end

/-! ## each statement has its reading -/
/-- a frame with such a scope -/
abbrev env0 (sc : Scope) : Env := { scope := sc, locals := 0, globals := 0, cells := [] }
/-- which names ts = v stores from the right; none: not told -/
def swapN (sc : Scope) (ts : List Expr) (v : Expr) : Option (Option (List Str)) := match swappedStores ts v (env0 sc) with
  | .pure r => some r
  | _ => none
theorem swapN_ok {sc : Scope} {ts : List Expr} {v : Expr} {r : Option (List Str)} {env : Env} (hs : env.scope = sc) (h : swapN sc ts v = some r) : swappedStores ts v env = pure r := by
  have e : swappedStores ts v env = swappedStores ts v (env0 sc) := by
    have kf : env.kindOf = (env0 sc).kindOf := by funext x; unfold Env.kindOf; rw [hs]
    have hb : env.blockKind = (env0 sc).blockKind := by unfold Env.blockKind; rw [hs]
    unfold swappedStores
    rw [kf, hb]
  unfold swapN at h
  rw [e]
  split at h
  · rename_i q
    cases h
    exact q
  · cases h
/-- name = [..]: whether the list is stored by the comprehension itself -/
def swapLc (sc : Scope) (y : Str) (py : Pos) (sc' : Scope) (pos : Pos) : Bool := decide (sc.names.lookup y = some .local) && (py.line == pos.line) && !(sc'.names.any fun (n, k) => n == y && (k == .local || k == .cell))
theorem swapLc_no {sc : Scope} {elt : Expr} {gs : List Comprehension} {sc' : Scope} {pos py : Pos} {y : Str} {l : Nat} {env : Env} (hs : env.scope = sc) (h : swapLc sc y py sc' pos = false) : swapsWith (.ListComp elt gs sc' pos) (some (.Name y py)) l env = pure false := by
  have ky : env.kindOf y = sc.names.lookup y := by rw [← hs]; rfl
  unfold swapsWith
  simp only [ky, Expr.pos]
  unfold swapLc at h
  have : (env.blockKind == ScopeKind.function && List.lookup y sc.names == some NameKind.local && py.line == pos.line && !(sc'.names.any fun (n, k) => n == y && (k == .local || k == .cell))) = false := by
    cases h1 : (List.lookup y sc.names == some NameKind.local) with
    | false => simp
    | true =>
      have h2 : decide (List.lookup y sc.names = some NameKind.local) = true := by simpa using h1
      rw [h2, Bool.true_and] at h
      rw [Bool.and_assoc, h, Bool.and_false]
  exact congrArg pure this
theorem sole_up {Γ : Gam} {N : List Str} (e : E) (t : Expr) (l : Nat) (env : Env) (h : ∀ x p, t ≠ .Name x p) : swapsWithSole [t] (up Γ N e) l env = pure false := by
  cases e <;> first | (simp only [up]; rfl) | (simp only [up]; unfold swapsWithSole swapsWith; cases t <;> first | rfl | exact absurd rfl (h _ _))
theorem stores_sub {o i v : Expr} {p : Pos} {env : Env} : swappedStores [.Subscript o i p] v env = pure none := by
  unfold swappedStores
  rfl
def isLoc (sc : Scope) (x : Str) : Bool := decide (sc.names.lookup x = some .local) || decide (sc.names.lookup x = some .cell)
theorem isLoc_ok {sc : Scope} {x : Str} (h : isLoc sc x = true) : L2.Loc sc x := by
  unfold isLoc at h
  simp only [Bool.or_eq_true, decide_eq_true_eq] at h
  exact h
def isLc : E → Bool
  | .lc _ _ _ _ _ _ _ => true
  | _ => false
section
variable (Γ : Gam) (N : List Str)
def wfT (sc : Sk) : Tg → Bool
  | .nm i _ => decide (i < N.length) && isLoc sc.s (gname N i)
  | .sub o i _ => wfE Γ N sc o && wfE Γ N sc i
mutual
def wfS (sc : Sk) : S → Bool
  | .asg i _ e _ => decide (i < N.length) && isLoc sc.s (gname N i) && wfE Γ N sc e
  | .par i j q1 q2 k tp a b k2 vp _ => decide (i < N.length) && decide (j < N.length) && decide (i ≠ j) && decide (sc.s.names.lookup (gname N i) = some .local) && decide (sc.s.names.lookup (gname N j) = some .local) && wfE Γ N sc a && wfE Γ N sc b &&
      decide (swapN sc.s [.Tuple [.Name (gname N i) q1, .Name (gname N j) q2] k tp] (.Tuple [up Γ N a, up Γ N b] k2 vp) = some (some [gname N i, gname N j]))
  | .unp t1 t2 k tp e _ => wfT Γ N sc t1 && wfT Γ N sc t2 && wfE Γ N sc e && decide (swapN sc.s [.Tuple [upt Γ N t1, upt Γ N t2] k tp] (up Γ N e) = some none)
  | .sub o i _ e _ => wfE Γ N sc o && wfE Γ N sc i && wfE Γ N sc e
  | .exp e _ => wfE Γ N sc e && !isLc e
  | .ret e _ => wfE Γ N sc e
  | .iff c a b _ => wfE Γ N sc c && wfSs sc a && wfSs sc b
  | .fr x _ it b _ => decide (x < N.length) && isLoc sc.s (gname N x) && wfI Γ N sc it && wfSs sc b
  | .raise c _ e _ _ => decide (c < Γ.cls.length) && isGl sc.s (gname Γ.cls c) && wfE Γ N sc e
def wfSs (sc : Sk) : Ss → Bool
  | .nil => true
  | .cons s ss => wfS sc s && wfSs sc ss
end
end
/-- a def's own frame, with some room -/
def Frm (X : Cx) : Prop := (∀ x, X.fn x = true) ∧ Room 2 X.A
/-- how an error of the text is made -/
def RaiOk (Ω : Wd) (lv : Nat) : Prop := ∀ (N : List Str) (sc : Sk) (X : Cx), Good Ω N sc lv X → Room 2 X.A → ∀ (c : Nat) (q p : Pos) (e : E) (te : TE), c < Ω.Γ.cls.length → isGl sc.s (gname Ω.Γ.cls c) = true → PE X (up Ω.Γ N e) te →
  PMk X (.Call (.Name (gname Ω.Γ.cls c) q) [up Ω.Γ N e] [] p) (fun σ H Q => te σ H fun v H1 => ∀ d, H1 d = none → Q (.ref (Ω.ca c)) (some d) (upd H1 d (.xd [("value", v)])))
section
variable {Ω : Wd} {N : List Str} {lv : Nat} {fsp : Nat → Sp} {tsp : (XK → TE) → TE}
theorem pgT (fx : Facts Ω fsp lv) (tl : TellOk Ω N lv tsp) (t : Tg) (sc : Sk) (h : wfT Ω.Γ N sc t = true) (X : Cx) (W : WX) (g : Good Ω N sc lv X) (fn : Frm X) (tk : Takes X W) : PG X (upt Ω.Γ N t) (rdT Ω.P Ω.w Ω.K Ω.gv fsp tsp W t) := by
  cases t with
  | nm i p =>
    simp only [wfT, Bool.and_eq_true, decide_eq_true_eq] at h
    simp only [upt, rdT]
    exact pg_name g.nd (by rw [g.N]; exact gname_at h.1) (by rw [g.sc]; exact isLoc_ok h.2) (.inl (fn.1 _))
  | sub o i p =>
    simp only [wfT, Bool.and_eq_true] at h
    simp only [upt, rdT]
    exact pg_sub (peE fx tl o sc h.1 X W g tk).1 (peE fx tl i sc h.2 X W g tk).1 set_list (fun v => by cases i <;> (simp only [up]; rfl))
theorem upt_each (t : Tg) (es : List Expr) (env : Env) : (assignEach (upt Ω.Γ N t :: es) env).map (·.2) = assign (upt Ω.Γ N t) env :: (assignEach es env).map (·.2) := by
  cases t <;> (simp only [upt]; rfl)
theorem upt_two (t u : Tg) (env : Env) : (assignEach [upt Ω.Γ N t, upt Ω.Γ N u] env).length = 2 ∧ (assignEach [upt Ω.Γ N t, upt Ω.Γ N u] env).findIdx? (·.1) = none := by
  cases t <;> cases u <;> (simp only [upt]; exact ⟨rfl, rfl⟩)
mutual
theorem psS (fx : Facts Ω fsp lv) (tl : TellOk Ω N lv tsp) (ra : RaiOk Ω lv) : ∀ (s : S) (sc : Sk), sc.s.kind = .function → wfS Ω.Γ N sc s = true → ∀ (X : Cx) (W : WX), Good Ω N sc lv X → Frm X → Takes X W → PS X (upS Ω.Γ N s) (rdS Ω.P Ω.w Ω.K Ω.gv Ω.ca fsp tsp s W)
  | .asg i q e p, sc, hkd, h, X, W, g, fn, tk => by
    simp only [wfS, Bool.and_eq_true, decide_eq_true_eq] at h
    obtain ⟨⟨h1, h2⟩, h3⟩ := h
    have hi : X.N[i]? = some (gname N i) := by rw [g.N]; exact gname_at h1
    have hx : L2.Loc X.env.scope (gname N i) := by rw [g.sc]; exact isLoc_ok h2
    have plain : swapsWith (up Ω.Γ N e) (some (.Name (gname N i) q)) p.line X.env = pure false → PS X (upS Ω.Γ N (.asg i q e p)) (rdS Ω.P Ω.w Ω.K Ω.gv Ω.ca fsp tsp (.asg i q e p) W) := fun hs => by
      simp only [upS, rdS]
      exact ps_set g.nd hi hx (peE fx tl e sc h3 X W g tk).1 hs (.inl (fn.1 _))
    cases he : isLc e with
    | false => exact plain (swap_up e _ _ _ fun _ _ _ _ _ _ _ z => by rw [z] at he; cases he)
    | true =>
      cases e with
      | lc elt x xp it c sc' lp =>
        cases hw : swapLc sc.s (gname N i) q sc' lp with
        | false => exact plain (by simp only [up]; exact swapLc_no g.sc hw)
        | true =>
          simp only [swapLc, Bool.and_eq_true, decide_eq_true_eq, Bool.not_eq_true'] at hw
          obtain ⟨⟨w1, w2⟩, w3⟩ := hw
          simp only [wfE, Bool.and_eq_true, decide_eq_true_eq] at h3
          obtain ⟨⟨⟨⟨⟨k1, k2⟩, k3⟩, k4⟩, k5⟩, k6⟩ := h3
          simp only [upS, rdS, up, rd]
          have ok := blkOk_by k3
          rw [← g.N, ← g.sc] at ok
          exact ps_setLc (X := X) (i := i) (spos := p) (py := q) (pos := lp) (own := [(gname N x, x)]) (g := gName x) g.calm g.nd hi (by rw [g.sc]; exact w1) (sw_true (by rw [g.sc]; exact hkd) (by rw [g.sc]; exact w1) w2 w3) (peI fx tl it sc k1 X W0 g LamX.takes0 (.Name (gname N x) xp)) (by rw [g.N] at ok ⊢; exact ok)
            (fun s H C cl fp => pg_name (X := X.blk s H sc' (compEnvC sc' cl C X.env) fp) (pos := xp) g.nd (by rw [g.N]; exact gname_at k2) (.inl (by rw [(blk_good g).sc]; exact k4)) (.inr (by rw [(blk_good g).sc]; exact k4)))
            (fun s H C cl fp => peC fx tl c _ k6 _ W0 (blk_good g) LamX.takes0)
            (fun s H C cl fp => (peE fx tl elt _ k5 _ W0 (blk_good g) LamX.takes0).1) (fun _ => by cases it <;> first | rfl | (rename_i e; cases e <;> (simp only [upi, up]; rfl)))
      | _ => cases he
  | .par i j q1 q2 k tp a b k2 vp p, sc, hkd, h, X, W, g, fn, tk => by
    simp only [wfS, Bool.and_eq_true, decide_eq_true_eq] at h
    obtain ⟨⟨⟨⟨⟨⟨⟨h1, h2⟩, h3⟩, h4⟩, h5⟩, h6⟩, h7⟩, h8⟩ := h
    simp only [upS, rdS]
    exact ps_par g.calm g.nd (by rw [g.N]; exact gname_at h1) (by rw [g.N]; exact gname_at h2) h3 (by rw [g.sc]; exact h4) (by rw [g.sc]; exact h5)
      (pa_cons (peE fx tl a sc h6 X W g tk).1 (pa_cons (peE fx tl b sc h7 X W g tk).1 pa_nil (star_up _ _ _)) (star_up _ _ _)) (swapN_ok g.sc h8) rfl
  | .unp t1 t2 k tp e p, sc, hkd, h, X, W, g, fn, tk => by
    simp only [wfS, Bool.and_eq_true, decide_eq_true_eq] at h
    obtain ⟨⟨⟨h1, h2⟩, h3⟩, h4⟩ := h
    simp only [upS, rdS]
    have e2 := upt_two (Ω := Ω) (N := N) t1 t2 X.env
    have z := pg_tup (X := X) (k := k) (pos := tp) g.calm (pgs_cons (pgT fx tl t1 sc h1 X W g fn tk) (pgs_cons (pgT fx tl t2 sc h2 X W g fn tk) pgs_nil (upt_each _ _ _)) (upt_each _ _ _)) e2.1 e2.2
    rw [g.K] at z
    exact ps_asg (peE fx tl e sc h3 X W g tk).1 z (sole_up e _ _ _ fun _ _ q => by cases q) (swapN_ok g.sc h4) rfl
  | .sub o i q e p, sc, hkd, h, X, W, g, fn, tk => by
    simp only [wfS, Bool.and_eq_true] at h
    simp only [upS, rdS]
    exact ps_asg (peE fx tl e sc h.2 X W g tk).1 (pg_sub (peE fx tl o sc h.1.1 X W g tk).1 (peE fx tl i sc h.1.2 X W g tk).1 set_list (fun v => by cases i <;> (simp only [up]; rfl))) (sole_up e _ _ _ fun _ _ q => by cases q) stores_sub rfl
  | .exp e p, sc, hkd, h, X, W, g, fn, tk => by
    simp only [wfS, Bool.and_eq_true, Bool.not_eq_true'] at h
    simp only [upS, rdS]
    exact ps_expr (peE fx tl e sc h.1 X W g tk).1 (swap_up e _ _ _ fun _ _ _ _ _ _ _ z => by rw [z] at h; cases h.2)
  | .ret e p, sc, hkd, h, X, W, g, fn, tk => by
    simp only [wfS] at h
    simp only [upS, rdS]
    exact ps_ret (peE fx tl e sc h X W g tk).1
  | .iff c a b p, sc, hkd, h, X, W, g, fn, tk => by
    simp only [wfS, Bool.and_eq_true] at h
    simp only [upS, rdS]
    exact ps_if (peE fx tl c sc h.1.1 X W g tk).2 (psSs fx tl ra a sc hkd h.1.2 X W g fn tk) (psSs fx tl ra b sc hkd h.2 X W g fn tk)
  | .fr x xp it b p, sc, hkd, h, X, W, g, fn, tk => by
    simp only [wfS, Bool.and_eq_true, decide_eq_true_eq] at h
    obtain ⟨⟨⟨h1, h2⟩, h3⟩, h4⟩ := h
    simp only [upS, rdS]
    exact ps_for g.pass g.calm (peI fx tl it sc h3 X W g tk _) (pg_name g.nd (by rw [g.N]; exact gname_at h1) (by rw [g.sc]; exact isLoc_ok h2) (.inl (fn.1 _))) (psSs fx tl ra b sc hkd h4 X W g fn tk)
      (fun _ => by cases it <;> first | rfl | (rename_i e; cases e <;> (simp only [upi, up]; rfl)))
  | .raise c q e p1 p, sc, hkd, h, X, W, g, fn, tk => by
    simp only [wfS, Bool.and_eq_true, decide_eq_true_eq] at h
    obtain ⟨⟨h1, h2⟩, h3⟩ := h
    simp only [upS, rdS]
    exact ps_raise g.calm tk (ra N sc X g fn.2 c q p1 e _ h1 h2 (peE fx tl e sc h3 X W g tk).1)
theorem psSs (fx : Facts Ω fsp lv) (tl : TellOk Ω N lv tsp) (ra : RaiOk Ω lv) : ∀ (ss : Ss) (sc : Sk), sc.s.kind = .function → wfSs Ω.Γ N sc ss = true → ∀ (X : Cx) (W : WX), Good Ω N sc lv X → Frm X → Takes X W → PSs X (upSs Ω.Γ N ss) (rdSs Ω.P Ω.w Ω.K Ω.gv Ω.ca fsp tsp ss W)
  | .nil, sc, hkd, h, X, W, g, fn, tk => by
    simp only [upSs, rdSs]
    exact pss_nil
  | .cons s ss, sc, hkd, h, X, W, g, fn, tk => by
    simp only [wfSs, Bool.and_eq_true] at h
    simp only [upSs, rdSs]
    exact pss_cons (psS fx tl ra s sc hkd h.1 X W g fn tk) (psSs fx tl ra ss sc hkd h.2 X W g fn tk)
end
end
end Mn

-- Mn6
set_option Elab.async false
set_option linter.all false
set_option maxRecDepth 100000
set_option autoImplicit false
namespace Mn
open PySem PySem.Spec L2

/-! ## what is evaluated comes about -/
section
variable {K : PySem.W.Frag} {T : List (Addr × Str)} {δ δ0 δ1 δ' : List Sl} {σ : L2.St} {G H G0 H0 G1 H1 : Hp} {p : Addr} {o : HO}
theorem same_new (e : Same G H) (hp : H p = none) : Same G (upd H p o) := fun b u q => by
  rw [upd_ne (ne_of_none (e b u q) hp)]
  exact e b u q
theorem same_new2 (hp : H p = none) : Same H (upd H p o) := same_new (Same.refl H) hp
theorem same_upd2 (e : Same G H) : Same (upd G p o) (upd H p o) := fun b u q => by
  by_cases hb : b = p
  · rw [hb, upd_same] at q ⊢
    exact q
  · rw [upd_ne hb] at q ⊢
    exact e b u q
theorem Rel.gfree (R : Rel K T δ σ G H) (hp : H p = none) : G p = none := R.sub.free hp
/-- a new thing is laid -/
theorem Rel.laid (R : Rel K T δ σ G H) (hp : H p = none) : Rel K T δ σ G (upd H p o) :=
  ⟨R.len, same_new R.sub hp, R.ntb, R.tab.ext (same_new2 hp), R.val, fun i xs h => by
    obtain ⟨a, vs, h1, h2, h3, h4⟩ := R.own i xs h
    exact ⟨a, vs, h1, same_new2 hp _ _ h2, h3, h4⟩, R.sep⟩
theorem GoE.laid (hp : H p = none) : GoE δ δ σ G H G (upd H p o) :=
  ⟨⟨Same.refl G, fun b u h _ _ => same_new2 hp _ _ h, fun b u h => ⟨u, same_new2 hp _ _ h⟩, fun b u h => .inl h, fun b h => .inl h⟩, fun _ xs h => ⟨xs, h⟩, fun _ _ h => h, fun _ _ h => .inl h.1⟩
/-- a new thing is laid that stays -/
theorem Rel.laidG (R : Rel K T δ σ G H) (hp : H p = none) (ho : ∀ ps, o ≠ .tbl ps) : Rel K T δ σ (upd G p o) (upd H p o) :=
  ⟨R.len, same_upd2 R.sub, fun b ps h => by
    by_cases hb : b = p
    · rw [hb, upd_same] at h
      exact ho ps (Option.some.inj h)
    · rw [upd_ne hb] at h
      exact R.ntb b ps h, R.tab.ext (same_new2 hp), fun i d h => by
    obtain ⟨v, h1, h2⟩ := R.val i d h
    exact ⟨v, h1, h2.mono (same_new2 (R.gfree hp))⟩, fun i xs h => by
    obtain ⟨a, vs, h1, h2, h3, h4⟩ := R.own i xs h
    exact ⟨a, vs, h1, same_new2 hp _ _ h2, by rw [upd_ne (ne_of_none h2 hp)]; exact h3, h4.mono (same_new2 (R.gfree hp))⟩, R.sep⟩
theorem GoE.laidG (R : Rel K T δ σ G H) (hp : H p = none) : GoE δ δ σ G H (upd G p o) (upd H p o) :=
  ⟨⟨same_new2 (R.gfree hp), fun b u h _ _ => same_new2 hp _ _ h, fun b u h => ⟨u, same_new2 hp _ _ h⟩, fun b u h => by
    by_cases hb : b = p
    · rw [hb]
      exact .inr (.inl hp)
    · rw [upd_ne hb] at h
      exact .inl h, fun b h => .inl h⟩, fun _ xs h => ⟨xs, h⟩, fun _ _ h => h, fun _ _ h => .inl h.1⟩
end

/-! ### what is given becomes a value that stays -/
def NewA (r : R) (v : V) (a : Addr) : Prop := (∃ xs, r = .new xs) ∧ v = .ref a
section
variable {K : PySem.W.Frag} {T : List (Addr × Str)} {δ δ0 δ1 δ' : List Sl} {σ : L2.St} {G H G0 H0 G1 H1 : Hp} {v : V} {d : D} {r : R}
theorem frz_ok (R0 : Rel K T δ0 σ G0 H0) (g0 : GoE δ0 δ σ G0 H0 G H) (R : Rel K T δ σ G H) (h : RV K G H σ H0 v r) (e : frz δ r = some (d, δ')) :
    ∃ G', Rel K T δ' σ G' H ∧ GoE δ0 δ' σ G0 H0 G' H ∧ Den K G' v d ∧ Same G G' ∧ (∀ b o, G' b = some o → G b = some o ∨ NewA r v b ∨ Own δ0 σ b) := by
  cases r with
  | val d' =>
    cases e
    exact ⟨G, R, g0, h, Same.refl G, fun _ _ q => .inl q⟩
  | new xs =>
    cases e
    obtain ⟨a, vs, rfl, h1, h2, h3, h4⟩ := h
    have no : ¬ Own δ σ a := fun z => by
      obtain ⟨o, q⟩ := R0.live (g0.sub z)
      rw [h3] at q
      cases q
    have sG : Same G (upd G a (.lst vs)) := same_new2 h2
    have nu : ∀ b o, upd G a (.lst vs) b = some o → b ≠ a → G b = some o := fun b o q hb => by
      rw [upd_ne hb] at q
      exact q
    refine ⟨upd G a (.lst vs), ⟨R.len, fun b o q => ?_, fun b ps q => ?_, R.tab, fun i d q => ?_, fun i xs q => ?_, R.sep⟩, ⟨⟨g0.go.ex.trans sG, g0.go.keep, g0.go.live, fun b o q => ?_, g0.go.grow⟩, g0.less, g0.lock, fun i x h => (g0.fate i x h).imp id fun ⟨o, z⟩ => ⟨o, sG _ _ z⟩⟩, .lst upd_same (h4.mono sG), sG, fun b o q => ?_⟩
    · by_cases hb : b = a
      · rw [hb, upd_same] at q
        rw [hb, h1]
        exact q
      · exact R.sub b o (nu b o q hb)
    · by_cases hb : b = a
      · rw [hb, upd_same] at q
        cases q
      · exact R.ntb b ps (nu b _ q hb)
    · obtain ⟨w, q1, q2⟩ := R.val i d q
      exact ⟨w, q1, q2.mono sG⟩
    · obtain ⟨c, ws, q1, q2, q3, q4⟩ := R.own i xs q
      have nc : c ≠ a := fun z => no ⟨i, ⟨xs, q⟩, by rw [← z]; exact q1⟩
      exact ⟨c, ws, q1, q2, by rw [upd_ne nc]; exact q3, q4.mono sG⟩
    · by_cases hb : b = a
      · rw [hb]
        exact .inr (.inl h3)
      · exact g0.go.new b o (nu b o q hb)
    · by_cases hb : b = a
      · rw [hb]
        exact .inr (.inl ⟨⟨xs, rfl⟩, rfl⟩)
      · exact .inl (nu b o q hb)
  | bor i =>
    have h : σ[i]? = some (some v) := h
    unfold frz at e
    dsimp only at e
    split at e
    · rename_i d' q
      cases e
      obtain ⟨w, q1, q2⟩ := R.val i _ q
      rw [h] at q1
      cases q1
      exact ⟨G, R, g0, q2, Same.refl G, fun _ _ q => .inl q⟩
    · rename_i xs qi
      cases e
      obtain ⟨a, vs, q1, h1, h2, h4⟩ := R.own i xs (.inl qi)
      rw [h] at q1
      cases q1
      have li : i < δ.length := by
        rcases Nat.lt_or_ge i δ.length with z | z
        · exact z
        · rw [List.getElem?_eq_none z] at qi
          cases qi
      have oa : Own δ σ a := ⟨i, ⟨xs, .inl qi⟩, h⟩
      have sG : Same G (upd G a (.lst vs)) := same_new2 h2
      have nu : ∀ b o, upd G a (.lst vs) b = some o → b ≠ a → G b = some o := fun b o q hb => by
        rw [upd_ne hb] at q
        exact q
      have owD : ∀ j ys, Ow (δ.set i (.val (.lst xs)))[j]? ys → j ≠ i ∧ Ow δ[j]? ys := fun j ys z => by
        by_cases hj : j = i
        · subst hj
          rw [List.getElem?_set_self li] at z
          rcases z with z | z <;> cases z
        · rw [List.getElem?_set_ne (Ne.symm hj)] at z
          exact ⟨hj, z⟩
      refine ⟨upd G a (.lst vs), ⟨by rw [List.length_set]; exact R.len, fun b o q => ?_, fun b ps q => ?_, R.tab, fun j d q => ?_, fun j ys q => ?_, fun j l b q1 q2 => ?_⟩, ⟨⟨g0.go.ex.trans sG, g0.go.keep, g0.go.live, fun b o q => ?_, fun b q => ?_⟩, fun j ys q => ?_, fun j ys q => ?_, fun j x hx => ?_⟩, .lst upd_same (h4.mono sG), sG, fun b o q => ?_⟩
      · by_cases hb : b = a
        · rw [hb, upd_same] at q
          rw [hb, h1]
          exact q
        · exact R.sub b o (nu b o q hb)
      · by_cases hb : b = a
        · rw [hb, upd_same] at q
          cases q
        · exact R.ntb b ps (nu b _ q hb)
      · by_cases hj : j = i
        · subst hj
          rw [List.getElem?_set_self li] at q
          cases q
          exact ⟨_, h, .lst upd_same (h4.mono sG)⟩
        · rw [List.getElem?_set_ne (Ne.symm hj)] at q
          obtain ⟨w, q1, q2⟩ := R.val j d q
          exact ⟨w, q1, q2.mono sG⟩
      · obtain ⟨hj, z⟩ := owD j ys q
        obtain ⟨c, ws, q1, q2, q3, q4⟩ := R.own j ys z
        have nc : c ≠ a := fun y => hj (R.sep j i a ⟨⟨ys, z⟩, by rw [← y]; exact q1⟩ ⟨⟨xs, .inl qi⟩, h⟩)
        exact ⟨c, ws, q1, q2, by rw [upd_ne nc]; exact q3, q4.mono sG⟩
      · obtain ⟨⟨ys, z1⟩, e1⟩ := q1
        obtain ⟨⟨zs, z2⟩, e2⟩ := q2
        exact R.sep j l b ⟨⟨ys, (owD j ys z1).2⟩, e1⟩ ⟨⟨zs, (owD l zs z2).2⟩, e2⟩
      · by_cases hb : b = a
        · rw [hb]
          exact .inr (.inr (g0.sub oa))
        · exact g0.go.new b o (nu b o q hb)
      · obtain ⟨j, ⟨ys, z⟩, e1⟩ := q
        exact g0.go.grow b ⟨j, ⟨ys, (owD j ys z).2⟩, e1⟩
      · exact g0.less j ys (owD j ys q).2
      · have z := g0.lock j ys q
        have hj : j ≠ i := fun y => by
          subst y
          rw [z] at qi
          cases qi
        rw [List.getElem?_set_ne (Ne.symm hj)]
        exact z
      · by_cases hj : j = i
        · subst hj
          have e1 := hx.2
          rw [h] at e1
          cases e1
          exact .inr ⟨_, upd_same⟩
        · rcases g0.fate j x hx with ⟨ys, z⟩ | ⟨o, z⟩
          · exact .inl ⟨ys, by rw [List.getElem?_set_ne (Ne.symm hj)]; exact z⟩
          · exact .inr ⟨o, sG _ _ z⟩
      · by_cases hb : b = a
        · rw [hb]
          exact .inr (.inr (g0.sub oa))
        · exact .inl (nu b o q hb)
    · cases e
end
end Mn

-- Mn7
set_option Elab.async false
set_option linter.all false
set_option maxRecDepth 100000
set_option autoImplicit false
namespace Mn
open PySem PySem.Spec L2

/-! ### several operands -/
inductive Sees (K : PySem.W.Frag) (G H : Hp) : List V → List D → Prop
  | nil : Sees K G H [] []
  | cons {v : V} {vs : List V} {d : D} {ds : List D} : See K G H v d → Sees K G H vs ds → Sees K G H (v :: vs) (d :: ds)
inductive RVs (K : PySem.W.Frag) (G H : Hp) (σ : L2.St) (H0 : Hp) : List V → List R → Prop
  | nil : RVs K G H σ H0 [] []
  | cons {v : V} {vs : List V} {r : R} {rs : List R} : RV K G H σ H0 v r → RVs K G H σ H0 vs rs → (∀ (a : Addr) (i : Nat) (v' : V) (r' : R), NewA r v a → vs[i]? = some v' → rs[i]? = some r' → ¬ NewA r' v' a) → RVs K G H σ H0 (v :: vs) (r :: rs)
section
variable {K : PySem.W.Frag} {T : List (Addr × Str)} {δ δ0 δ1 δ2 δ' : List Sl} {σ : L2.St} {G H G0 H0 G1 H1 G2 H2 : Hp}
theorem RVs.len {vs : List V} {rs : List R} (h : RVs K G H σ H0 vs rs) : vs.length = rs.length := by
  induction h with
  | nil => rfl
  | cons _ _ _ ih => rw [List.length_cons, List.length_cons, ih]
theorem RVs.at {vs : List V} {rs : List R} (h : RVs K G H σ H0 vs rs) : ∀ (i : Nat) (r : R), rs[i]? = some r → ∃ v, vs[i]? = some v ∧ RV K G H σ H0 v r := by
  induction h with
  | nil => intro i r e; simp at e
  | cons h1 _ _ ih =>
    intro i r e
    cases i with
    | zero => simp at e; subst e; exact ⟨_, rfl, h1⟩
    | succ i => obtain ⟨v, q1, q2⟩ := ih i r (by simpa using e); exact ⟨v, by simpa using q1, q2⟩
theorem RVs.ne {vs : List V} {rs : List R} (h : RVs K G H σ H0 vs rs) : ∀ (i j : Nat) (r r' : R) (v v' : V) (a : Addr), rs[i]? = some r → rs[j]? = some r' → vs[i]? = some v → vs[j]? = some v' → NewA r v a → NewA r' v' a → i = j := by
  induction h with
  | nil => intro i j r r' v v' a e; simp at e
  | cons h1 _ hd ih =>
    intro i j r r' v v' a e1 e2 f1 f2 n1 n2
    cases i with
    | zero =>
      cases j with
      | zero => rfl
      | succ j =>
        simp at e1 f1
        subst e1 f1
        exact absurd n2 (hd a j v' r' n1 (by simpa using f2) (by simpa using e2))
    | succ i =>
      cases j with
      | zero =>
        simp at e2 f2
        subst e2 f2
        exact absurd n1 (hd a i v r n2 (by simpa using f1) (by simpa using e1))
      | succ j => rw [ih i j r r' v v' a (by simpa using e1) (by simpa using e2) (by simpa using f1) (by simpa using f2) n1 n2]
theorem RVs.back {vs : List V} {rs : List R} (h : RVs K G H σ H1 vs rs) (a : GoE δ δ1 σ G0 H0 G1 H1) : RVs K G H σ H0 vs rs := by
  induction h with
  | nil => exact .nil
  | cons h1 _ hd ih => exact .cons (h1.back a) ih hd
theorem RVs.stay {vs : List V} {rs : List R} (h : RVs K G1 H1 σ H vs rs) (R0 : Rel K T δ σ G H) (a : GoE δ δ1 σ G H G1 H1) (b : GoE δ1 δ2 σ G1 H1 G2 H2) : RVs K G2 H2 σ H vs rs := by
  induction h with
  | nil => exact .nil
  | cons h1 _ hd ih => exact .cons (h1.stay R0 a b) ih hd
/-- what is new came up behind the first -/
theorem RVs.later {v : V} {r : R} {vs : List V} {rs : List R} (hv : RV K G1 H1 σ H0 v r) (h : RVs K G2 H2 σ H1 vs rs) : ∀ (a : Addr) (i : Nat) (v' : V) (r' : R), NewA r v a → vs[i]? = some v' → rs[i]? = some r' → ¬ NewA r' v' a := by
  rintro a i v' r' ⟨⟨xs, rfl⟩, rfl⟩ e1 e2 ⟨⟨ys, rfl⟩, rfl⟩
  obtain ⟨w, q1, b, ws, q2, q3, q4, q5, _⟩ := h.at i _ e2
  rw [e1] at q1
  cases q1
  cases q2
  obtain ⟨c, zs, z1, z2, _⟩ := hv
  cases z1
  rw [q5] at z2
  cases z2
theorem frzs_ok (R0 : Rel K T δ0 σ G0 H0) : ∀ {rs : List R} {vs : List V} {ds : List D} {δ δ' : List Sl} {G : Hp}, GoE δ0 δ σ G0 H0 G H → Rel K T δ σ G H → RVs K G H σ H0 vs rs → frzs δ rs = some (ds, δ') →
    ∃ G', Rel K T δ' σ G' H ∧ GoE δ0 δ' σ G0 H0 G' H ∧ DenL K G' vs ds ∧ Same G G'
  | [], _, _, δ, δ', G, g0, Rl, .nil, e => by
    cases e
    exact ⟨G, Rl, g0, .nil, Same.refl G⟩
  | r :: rs, _, ds, δ, δ', G, g0, Rl, .cons (v := v) (vs := vs) h1 h2 hd, e => by
    unfold frzs at e
    split at e
    · rename_i d δ1 q1
      split at e
      · rename_i ds' δ2 q2
        cases e
        obtain ⟨G1, R1, g1, n1, s1, c1⟩ := frz_ok R0 g0 Rl h1 q1
        have h2' : RVs K G1 H σ H0 vs rs := by
          have key : ∀ {vs' : List V} {rs' : List R}, RVs K G H σ H0 vs' rs' → (∀ (a : Addr) (i : Nat) (v' : V) (r' : R), NewA r v a → vs'[i]? = some v' → rs'[i]? = some r' → ¬ NewA r' v' a) → RVs K G1 H σ H0 vs' rs' := by
            intro vs' rs' h
            induction h with
            | nil => intro _; exact .nil
            | @cons w ws t ts k1 _ kd ih =>
              intro hd'
              refine .cons ?_ (ih fun a i v' r' n z1 z2 => hd' a (i + 1) v' r' n (by simpa using z1) (by simpa using z2)) kd
              cases t with
              | val d => exact Den.mono s1 k1
              | bor i => exact k1
              | new xs =>
                obtain ⟨a, us, rfl, y1, y2, y3, y4⟩ := k1
                refine ⟨a, us, rfl, y1, ?_, y3, y4.mono s1⟩
                cases q : G1 a with
                | none => rfl
                | some o =>
                  rcases c1 a o q with z | z | z
                  · rw [y2] at z; cases z
                  · exact absurd ⟨⟨xs, rfl⟩, rfl⟩ (hd' a 0 _ _ z rfl rfl)
                  · obtain ⟨o', z'⟩ := R0.live z
                    rw [y3] at z'
                    cases z'
          exact key h2 hd
        obtain ⟨G2, R2, g2, n2, s2⟩ := frzs_ok R0 g1 R1 h2' q2
        exact ⟨G2, R2, g2, .cons (n1.mono s2) n2, s1.trans s2⟩
      · cases e
    · cases e
theorem sees_ok {δ : List Sl} (Rl : Rel K T δ σ G H) : ∀ {rs : List R} {vs : List V} {ds : List D}, RVs K G H σ H0 vs rs → sees δ rs = some ds → Sees K G H vs ds
  | [], _, _, .nil, e => by cases e; exact .nil
  | r :: rs, _, _, .cons h1 h2 _, e => by
    unfold sees at e
    split at e
    · rename_i d ds' q1 q2
      cases e
      exact .cons (h1.see Rl q1) (sees_ok Rl h2 q2)
    · cases e
end
end Mn

-- Mn8
set_option Elab.async false
set_option linter.all false
set_option maxRecDepth 100000
set_option autoImplicit false
namespace Mn
open PySem PySem.Spec L2

/-! ### a def called -/
section
variable (Ω : Wd)
/-- what is wanted behind a call -/
def PostF (as : List Sl) (vs : List V) (G H : Hp) (Q : VK) (E : XK) : CO → Prop
  | .ret r ps => ∀ v G' H', Rel Ω.K Ω.T ps (vs.map some) G' H' → GoE as ps (vs.map some) G H G' H' → RV Ω.K G' H' [] H v r.r → Q v H'
  | .exc c d ps => ∀ v x G' H', Rel Ω.K Ω.T ps (vs.map some) G' H' → GoE as ps (vs.map some) G H G' H' → H' x = some (.xd [("value", v)]) → Den Ω.K G' v d → E (.ref (Ω.ca c)) (some x) H'
def SpF (run : List Sl → Option CO) : Sp := fun vs H Q E => ∃ as G co, run as = some co ∧ Rel Ω.K Ω.T as (vs.map some) G H ∧ PostF Ω as vs G H Q E co
/-- what is wanted behind an expression -/
def PostE (W : WX) (σ : L2.St) (δ : List Sl) (G H : Hp) (Q : VK) : EO → Prop
  | .ok r δ' => ∀ v G' H', Rel Ω.K Ω.T δ' σ G' H' → GoE δ δ' σ G H G' H' → RV Ω.K G' H' σ H v r → Q v H'
  | .exc c d δ' => ∀ v x G' H', Rel Ω.K Ω.T δ' σ G' H' → GoE δ δ' σ G H G' H' → H' x = some (.xd [("value", v)]) → Den Ω.K G' v d → W (.ref (Ω.ca c)) (some x) σ H'
end

theorem argSls_at {δ : List Sl} : ∀ {rs : List R} {as : List Sl}, argSls δ rs = some as → as.length = rs.length ∧ ∀ (i : Nat) (r : R), rs[i]? = some r → ∃ s, as[i]? = some s ∧ argSl δ r = some s
  | [], _, e => by cases e; exact ⟨rfl, fun i r q => by simp at q⟩
  | r :: rs, as, e => by
    unfold argSls at e
    split at e
    · rename_i s ss q1 q2
      cases e
      obtain ⟨l, h⟩ := argSls_at q2
      refine ⟨by rw [List.length_cons, List.length_cons, l], fun i t q => ?_⟩
      cases i with
      | zero => simp at q; subst q; exact ⟨s, rfl, q1⟩
      | succ i => obtain ⟨s', z1, z2⟩ := h i t (by simpa using q); exact ⟨s', by simpa using z1, z2⟩
    · cases e
theorem bors_mem {i j : Nat} : ∀ {rs : List R}, rs[i]? = some (.bor j) → j ∈ bors rs := by
  intro rs
  induction rs generalizing i with
  | nil => intro e; simp at e
  | cons r rs ih =>
    intro e
    cases i with
    | zero => simp at e; subst e; exact List.mem_cons_self
    | succ i =>
      have z := ih (i := i) (by simpa using e)
      cases r with
      | bor k => exact List.mem_cons_of_mem _ z
      | val d => exact z
      | new xs => exact z
theorem wb_len : ∀ (rs : List R) (ps δ : List Sl), (wb δ rs ps).length = δ.length
  | [], ps, δ => by simp [wb]
  | r :: rs, [], δ => by cases r <;> simp [wb]
  | .bor i :: rs, s :: ps, δ => by simp only [wb]; rw [wb_len rs ps, List.length_set]
  | .val d :: rs, s :: ps, δ => by simp only [wb]; exact wb_len rs ps δ
  | .new d :: rs, s :: ps, δ => by simp only [wb]; exact wb_len rs ps δ
theorem wb_no {j : Nat} : ∀ (rs : List R) (ps δ : List Sl), j ∉ bors rs → (wb δ rs ps)[j]? = δ[j]?
  | [], ps, δ, _ => by simp [wb]
  | r :: rs, [], δ, _ => by cases r <;> simp [wb]
  | .bor i :: rs, s :: ps, δ, h => by
    simp only [bors, List.mem_cons, not_or] at h
    simp only [wb]
    rw [wb_no rs ps _ h.2, List.getElem?_set_ne (Ne.symm h.1)]
  | .val d :: rs, s :: ps, δ, h => by simp only [wb]; exact wb_no rs ps δ (by simpa [bors] using h)
  | .new d :: rs, s :: ps, δ, h => by simp only [wb]; exact wb_no rs ps δ (by simpa [bors] using h)
theorem wb_at {j : Nat} : ∀ (rs : List R) (ps δ : List Sl) (i : Nat), (bors rs).Nodup → rs.length = ps.length → rs[i]? = some (.bor j) → j < δ.length → (wb δ rs ps)[j]? = ps[i]?
  | [], ps, δ, i, _, _, e, _ => by simp at e
  | r :: rs, [], δ, i, _, l, _, _ => by simp at l
  | r :: rs, s :: ps, δ, 0, nd, l, e, hj => by
    simp at e
    subst e
    simp only [bors, List.nodup_cons] at nd
    simp only [wb]
    rw [wb_no rs ps _ nd.1, List.getElem?_set_self hj] <;> rfl
  | r :: rs, s :: ps, δ, i + 1, nd, l, e, hj => by
    have l' : rs.length = ps.length := by simpa using l
    have e' : rs[i]? = some (.bor j) := by simpa using e
    cases r with
    | bor k =>
      simp only [bors, List.nodup_cons] at nd
      simp only [wb]
      rw [wb_at rs ps _ i nd.2 l' e' (by rw [List.length_set]; exact hj)] <;> rfl
    | val d => simp only [wb]; rw [wb_at rs ps δ i (by simpa [bors] using nd) l' e' hj] <;> rfl
    | new d => simp only [wb]; rw [wb_at rs ps δ i (by simpa [bors] using nd) l' e' hj] <;> rfl
theorem bors_at {j : Nat} : ∀ {rs : List R}, j ∈ bors rs → ∃ i : Nat, rs[i]? = some (.bor j)
  | [], h => by simp [bors] at h
  | .bor k :: rs, h => by
    simp only [bors, List.mem_cons] at h
    rcases h with h | h
    · exact ⟨0, by simp [h]⟩
    · obtain ⟨i, e⟩ := bors_at h
      exact ⟨i + 1, by simpa using e⟩
  | .val d :: rs, h => by
    obtain ⟨i, e⟩ := bors_at (rs := rs) (by simpa [bors] using h)
    exact ⟨i + 1, by simpa using e⟩
  | .new d :: rs, h => by
    obtain ⟨i, e⟩ := bors_at (rs := rs) (by simpa [bors] using h)
    exact ⟨i + 1, by simpa using e⟩
theorem bors_inj {j : Nat} : ∀ {rs : List R} {i l : Nat}, (bors rs).Nodup → rs[i]? = some (.bor j) → rs[l]? = some (.bor j) → i = l
  | [], i, l, _, e, _ => by simp at e
  | r :: rs, 0, 0, _, _, _ => rfl
  | r :: rs, 0, l + 1, nd, e1, e2 => by
    simp at e1
    subst e1
    simp only [bors, List.nodup_cons] at nd
    exact absurd (bors_mem (i := l) (by simpa using e2)) nd.1
  | r :: rs, i + 1, 0, nd, e1, e2 => by
    simp at e2
    subst e2
    simp only [bors, List.nodup_cons] at nd
    exact absurd (bors_mem (i := i) (by simpa using e1)) nd.1
  | r :: rs, i + 1, l + 1, nd, e1, e2 => by
    have nd' : (bors rs).Nodup := by
      cases r with
      | bor k => simp only [bors, List.nodup_cons] at nd; exact nd.2
      | val d => simpa [bors] using nd
      | new d => simpa [bors] using nd
    rw [bors_inj (i := i) (l := l) nd' (by simpa using e1) (by simpa using e2)]

section
variable {K : PySem.W.Frag} {T : List (Addr × Str)} {δ δ0 : List Sl} {σ : L2.St} {G H G0 H0 : Hp} {vs : List V} {rs : List R} {as ps : List Sl}
theorem lt_of_ow {xs : List D} {i : Nat} (h : Ow δ[i]? xs) : i < δ.length := by
  rcases Nat.lt_or_ge i δ.length with z | z
  · exact z
  · rw [List.getElem?_eq_none z] at h
    rcases h with h | h <;> cases h
/-- an own argument: new, or the caller's slot's -/
theorem arg_own (Rl : Rel K T δ σ G H) (h : RVs K G H σ H0 vs rs) (ea : argSls δ rs = some as) {i : Nat} {xs : List D} (hi : Ow as[i]? xs) :
    ∃ r v, rs[i]? = some r ∧ vs[i]? = some v ∧ ((r = .new xs ∧ ∃ a ws, v = .ref a ∧ H a = some (.lst ws) ∧ G a = none ∧ H0 a = none ∧ DenL K G ws xs) ∨ ∃ j, r = .bor j ∧ σ[j]? = some (some v) ∧ δ[j]? = as[i]?) := by
  obtain ⟨l, ha⟩ := argSls_at ea
  have li : i < rs.length := by rw [← l]; exact lt_of_ow hi
  obtain ⟨s, q1, q2⟩ := ha i rs[i] (List.getElem?_eq_getElem li)
  obtain ⟨v, q3, q4⟩ := h.at i rs[i] (List.getElem?_eq_getElem li)
  refine ⟨rs[i], v, List.getElem?_eq_getElem li, q3, ?_⟩
  generalize rs[i] = r at q2 q4
  rw [q1] at hi
  cases r with
  | val d =>
    cases q2
    rcases hi with z | z <;> cases z
  | new ys =>
    cases q2
    obtain rfl : ys = xs := by
      rcases hi with z | z
      · exact Sl.own.inj (Option.some.inj z)
      · cases z
    obtain ⟨a, ws, z1, z2, z3, z4, z5⟩ := q4
    exact .inl ⟨rfl, a, ws, z1, z2, z3, z4, z5⟩
  | bor j =>
    refine .inr ⟨j, rfl, q4, ?_⟩
    rw [q1]
    unfold argSl at q2
    dsimp only at q2
    split at q2 <;> first | (rename_i q; rw [q]; exact q2) | cases q2
theorem arg_rel (R0 : Rel K T δ0 σ G0 H0) (g0 : GoE δ0 δ σ G0 H0 G H) (Rl : Rel K T δ σ G H) (h : RVs K G H σ H0 vs rs) (ea : argSls δ rs = some as) (nd : (bors rs).Nodup) : Rel K T as (vs.map some) G H := by
  obtain ⟨l, ha⟩ := argSls_at ea
  have lv : vs.length = as.length := by rw [h.len, l]
  refine ⟨by rw [List.length_map]; exact lv, Rl.sub, Rl.ntb, Rl.tab, fun i d hi => ?_, fun i xs hi => ?_, fun i j a hi hj => ?_⟩
  · have li : i < rs.length := by
      rw [← l]
      rcases Nat.lt_or_ge i as.length with z | z
      · exact z
      · rw [List.getElem?_eq_none z] at hi
        cases hi
    obtain ⟨s, q1, q2⟩ := ha i rs[i] (List.getElem?_eq_getElem li)
    obtain ⟨v, q3, q4⟩ := h.at i rs[i] (List.getElem?_eq_getElem li)
    generalize rs[i] = r at q2 q4
    rw [hi] at q1
    cases q1
    refine ⟨v, by rw [List.getElem?_map, q3]; rfl, ?_⟩
    cases r with
    | val d' =>
      cases q2
      exact q4
    | new ys => cases q2
    | bor j =>
      have q4 : σ[j]? = some (some v) := q4
      unfold argSl at q2
      dsimp only at q2
      split at q2
      · rename_i d' q
        cases q2
        obtain ⟨w, z1, z2⟩ := Rl.val j _ q
        rw [q4] at z1
        cases z1
        exact z2
      · cases q2
      · cases q2
      · cases q2
  · obtain ⟨r, v, q1, q2, q3⟩ := arg_own Rl h ea hi
    rcases q3 with ⟨rfl, a, ws, rfl, z2, z3, z4, z5⟩ | ⟨j, rfl, z1, z2⟩
    · exact ⟨a, ws, by rw [List.getElem?_map, q2]; rfl, z2, z3, z5⟩
    · rw [← z2] at hi
      obtain ⟨a, ws, y1, y2, y3, y4⟩ := Rl.own j xs hi
      rw [z1] at y1
      cases y1
      exact ⟨a, ws, by rw [List.getElem?_map, q2]; rfl, y2, y3, y4⟩
  · obtain ⟨⟨xs, oi⟩, ei⟩ := hi
    obtain ⟨⟨ys, oj⟩, ej⟩ := hj
    obtain ⟨r, v, q1, q2, q3⟩ := arg_own Rl h ea oi
    obtain ⟨r', v', p1, p2, p3⟩ := arg_own Rl h ea oj
    rw [List.getElem?_map, q2] at ei
    rw [List.getElem?_map, p2] at ej
    cases ei
    cases ej
    rcases q3 with ⟨rfl, b, ws, z1, z2, z3, z4, z5⟩ | ⟨k, rfl, z1, z2⟩
    · cases z1
      rcases p3 with ⟨rfl, b', ws', y1, y2, y3, y4, y5⟩ | ⟨k', rfl, y1, y2⟩
      · exact h.ne i j _ _ _ _ a q1 p1 q2 p2 ⟨⟨xs, rfl⟩, rfl⟩ ⟨⟨ys, rfl⟩, rfl⟩
      · rw [← y2] at oj
        obtain ⟨o, q⟩ := R0.live (g0.sub ⟨k', ⟨ys, oj⟩, y1⟩)
        rw [z4] at q
        cases q
    · rw [← z2] at oi
      rcases p3 with ⟨rfl, b', ws', y1, y2, y3, y4, y5⟩ | ⟨k', rfl, y1, y2⟩
      · cases y1
        obtain ⟨o, q⟩ := R0.live (g0.sub ⟨k, ⟨xs, oi⟩, z1⟩)
        rw [y4] at q
        cases q
      · rw [← y2] at oj
        have e := Rl.sep k k' a ⟨⟨xs, oi⟩, z1⟩ ⟨⟨ys, oj⟩, y1⟩
        subst e
        exact bors_inj nd q1 p1
/-- what may be changed by the callee -/
theorem arg_sub (Rl : Rel K T δ σ G H) (h : RVs K G H σ H0 vs rs) (ea : argSls δ rs = some as) {a : Addr} (o : Own as (vs.map some) a) : (∃ i j : Nat, rs[i]? = some (R.bor j) ∧ OwnAt δ σ j a) ∨ H0 a = none := by
  obtain ⟨i, ⟨xs, oi⟩, ei⟩ := o
  obtain ⟨r, v, q1, q2, q3⟩ := arg_own Rl h ea oi
  rw [List.getElem?_map, q2] at ei
  cases ei
  rcases q3 with ⟨rfl, b, ws, z1, z2, z3, z4, z5⟩ | ⟨k, rfl, z1, z2⟩
  · cases z1
    exact .inr z4
  · rw [← z2] at oi
    exact .inl ⟨i, k, q1, ⟨xs, oi⟩, z1⟩
/-- behind the call -/
theorem wb_ok {G' H' : Hp} (R0 : Rel K T δ0 σ G0 H0) (g0 : GoE δ0 δ σ G0 H0 G H) (Rl : Rel K T δ σ G H) (h : RVs K G H σ H0 vs rs) (ea : argSls δ rs = some as) (nd : (bors rs).Nodup)
    (Rp : Rel K T ps (vs.map some) G' H') (gp : GoE as ps (vs.map some) G H G' H') : Rel K T (wb δ rs ps) σ G' H' ∧ GoE δ0 (wb δ rs ps) σ G0 H0 G' H' := by
  obtain ⟨l, ha⟩ := argSls_at ea
  have lp : rs.length = ps.length := by
    have := Rp.len
    rw [List.length_map] at this
    rw [← this, h.len]
  have sl : ∀ (j : Nat) (s : Sl), (wb δ rs ps)[j]? = some s → (∃ i : Nat, rs[i]? = some (R.bor j) ∧ ps[i]? = some s) ∨ (j ∉ bors rs ∧ δ[j]? = some s) := fun j s e => by
    by_cases hj : j ∈ bors rs
    · obtain ⟨i, q⟩ := bors_at hj
      have hl : j < δ.length := by
        rw [← wb_len rs ps δ]
        rcases Nat.lt_or_ge j (wb δ rs ps).length with z | z
        · exact z
        · rw [List.getElem?_eq_none z] at e
          cases e
      rw [wb_at rs ps δ i nd lp q hl] at e
      exact .inl ⟨i, q, e⟩
    · rw [wb_no rs ps δ hj] at e
      exact .inr ⟨hj, e⟩
  have vat : ∀ i j : Nat, rs[i]? = some (R.bor j) → ∃ v, vs[i]? = some v ∧ σ[j]? = some (some v) := fun i j e => by
    obtain ⟨v, q1, q2⟩ := h.at i _ e
    exact ⟨v, q1, q2⟩
  -- a slot of one's own that the callee did not get
  have kept : ∀ (j : Nat) (xs : List D) (a : Addr), j ∉ bors rs → Ow δ[j]? xs → σ[j]? = some (some (.ref a)) → ¬ Own as (vs.map some) a := fun j xs a hj o e z => by
    rcases arg_sub Rl h ea z with ⟨i, k, q1, q2⟩ | q
    · have e2 := Rl.sep k j a q2 ⟨⟨xs, o⟩, e⟩
      subst e2
      exact hj (bors_mem q1)
    · obtain ⟨o', q'⟩ := R0.live (g0.sub ⟨j, ⟨xs, o⟩, e⟩)
      rw [q] at q'
      cases q'
  have oww : ∀ (j : Nat) (xs : List D), Ow (wb δ rs ps)[j]? xs → (∃ i : Nat, rs[i]? = some (R.bor j) ∧ Ow ps[i]? xs) ∨ (j ∉ bors rs ∧ Ow δ[j]? xs) := fun j xs o => by
    rcases o with o | o
    · rcases sl j _ o with ⟨i, q1, q2⟩ | ⟨q1, q2⟩
      · exact .inl ⟨i, q1, .inl q2⟩
      · exact .inr ⟨q1, .inl q2⟩
    · rcases sl j _ o with ⟨i, q1, q2⟩ | ⟨q1, q2⟩
      · exact .inl ⟨i, q1, .inr q2⟩
      · exact .inr ⟨q1, .inr q2⟩
  -- the callee's own slot is the caller's
  have back : ∀ (i j : Nat) (xs : List D), rs[i]? = some (R.bor j) → Ow ps[i]? xs → ∃ ys, Ow δ[j]? ys := fun i j xs q o => by
    obtain ⟨ys, z⟩ := gp.less i xs o
    obtain ⟨r, v, q1, q2, q3⟩ := arg_own Rl h ea z
    rw [q] at q1
    cases q1
    rcases q3 with ⟨e, _⟩ | ⟨k, e, z1, z2⟩
    · cases e
    · cases e
      exact ⟨ys, by rw [z2]; exact z⟩
  have atW : ∀ (i j : Nat) (a : Addr) (xs : List D), rs[i]? = some (R.bor j) → Ow ps[i]? xs → σ[j]? = some (some (.ref a)) → OwnAt ps (vs.map some) i a := fun i j a xs q o e => by
    obtain ⟨v, q1, q2⟩ := vat i j q
    rw [q2] at e
    cases e
    exact ⟨⟨xs, o⟩, by rw [List.getElem?_map, q1]; rfl⟩
  refine ⟨⟨by rw [wb_len]; exact Rl.len, Rp.sub, Rp.ntb, Rp.tab, fun j d e => ?_, fun j xs o => ?_, fun j k a oj ok => ?_⟩, ⟨⟨g0.go.ex.trans gp.go.ex, fun b o q n t => ?_, fun b o q => ?_, fun b o q => ?_, fun b z => ?_⟩, fun j xs o => ?_, fun j xs e => ?_, fun j x hx => ?_⟩⟩
  · rcases sl j _ e with ⟨i, q1, q2⟩ | ⟨q1, q2⟩
    · obtain ⟨v, z1, z2⟩ := vat i j q1
      obtain ⟨w, y1, y2⟩ := Rp.val i d q2
      rw [List.getElem?_map, z1] at y1
      cases y1
      exact ⟨_, z2, y2⟩
    · obtain ⟨v, z1, z2⟩ := Rl.val j d q2
      exact ⟨v, z1, z2.mono gp.go.ex⟩
  · rcases oww j xs o with ⟨i, q1, q2⟩ | ⟨q1, q2⟩
    · obtain ⟨v, z1, z2⟩ := vat i j q1
      obtain ⟨a, ws, y1, y2, y3, y4⟩ := Rp.own i xs q2
      rw [List.getElem?_map, z1] at y1
      cases y1
      exact ⟨a, ws, z2, y2, y3, y4⟩
    · obtain ⟨a, ws, y1, y2, y3, y4⟩ := Rl.own j xs q2
      have no := kept j xs a q1 q2 y1
      refine ⟨a, ws, y1, gp.go.keep a _ y2 no (fun ps z => by cases z), ?_, y4.mono gp.go.ex⟩
      cases q : G' a with
      | none => rfl
      | some u =>
        rcases gp.go.new a u q with z | z | z
        · rw [y3] at z; cases z
        · rw [y2] at z; cases z
        · exact absurd z no
  · obtain ⟨⟨xs, oj⟩, ej⟩ := oj
    obtain ⟨⟨ys, ok⟩, ek⟩ := ok
    rcases oww j xs oj with ⟨i, q1, q2⟩ | ⟨q1, q2⟩
    · obtain ⟨zs, z⟩ := back i j xs q1 q2
      rcases oww k ys ok with ⟨i', p1, p2⟩ | ⟨p1, p2⟩
      · obtain ⟨zs', z'⟩ := back i' k ys p1 p2
        exact Rl.sep j k a ⟨⟨zs, z⟩, ej⟩ ⟨⟨zs', z'⟩, ek⟩
      · exact Rl.sep j k a ⟨⟨zs, z⟩, ej⟩ ⟨⟨ys, p2⟩, ek⟩
    · rcases oww k ys ok with ⟨i', p1, p2⟩ | ⟨p1, p2⟩
      · obtain ⟨zs', z'⟩ := back i' k ys p1 p2
        exact Rl.sep j k a ⟨⟨xs, q2⟩, ej⟩ ⟨⟨zs', z'⟩, ek⟩
      · exact Rl.sep j k a ⟨⟨xs, q2⟩, ej⟩ ⟨⟨ys, p2⟩, ek⟩
  · refine gp.go.keep b o (g0.go.keep b o q n t) (fun z => ?_) t
    rcases arg_sub Rl h ea z with ⟨i, k, q1, q2⟩ | q'
    · exact n (g0.sub ⟨k, q2⟩)
    · rw [q] at q'
      cases q'
  · obtain ⟨o1, e1⟩ := g0.go.live b o q
    exact gp.go.live b o1 e1
  · rcases gp.go.new b o q with z | z | z
    · exact g0.go.new b o z
    · exact .inr (.inl (g0.go.back z))
    · rcases arg_sub Rl h ea z with ⟨i, k, q1, q2⟩ | q'
      · exact .inr (.inr (g0.sub ⟨k, q2⟩))
      · exact .inr (.inl q')
  · obtain ⟨j, ⟨xs, o⟩, e⟩ := z
    rcases oww j xs o with ⟨i, q1, q2⟩ | ⟨q1, q2⟩
    · obtain ⟨ys, z⟩ := back i j xs q1 q2
      exact .inl (g0.sub ⟨j, ⟨ys, z⟩, e⟩)
    · exact .inl (g0.sub ⟨j, ⟨xs, q2⟩, e⟩)
  · rcases oww j xs o with ⟨i, q1, q2⟩ | ⟨q1, q2⟩
    · obtain ⟨ys, z⟩ := back i j xs q1 q2
      exact g0.less j ys z
    · exact g0.less j xs q2
  · have e1 := g0.lock j xs e
    by_cases hj : j ∈ bors rs
    · obtain ⟨i, q⟩ := bors_at hj
      rw [wb_at rs ps δ i nd lp q (lt_of_ow (.inr e1))]
      have li : i < rs.length := by
        rcases Nat.lt_or_ge i rs.length with z | z
        · exact z
        · rw [List.getElem?_eq_none z] at q
          cases q
      obtain ⟨s, z1, z2⟩ := ha i _ q
      refine gp.lock i xs ?_
      rw [z1]
      unfold argSl at z2
      simp only [e1] at z2
      exact z2.symm
    · rw [wb_no rs ps δ hj]
      exact e1
  · rcases g0.fate j x hx with ⟨ys, z⟩ | ⟨o, z⟩
    · by_cases hj : j ∈ bors rs
      · obtain ⟨i, q⟩ := bors_at hj
        rw [wb_at rs ps δ i nd lp q (lt_of_ow z)]
        obtain ⟨s, z1, z2⟩ := ha i _ q
        obtain ⟨v, y1, y2⟩ := vat i j q
        have ev : v = .ref x := by
          have := hx.2
          rw [y2] at this
          cases this
          rfl
        have os : Ow as[i]? ys := by
          rw [z1]
          unfold argSl at z2
          rcases z with z | z
          · simp only [z] at z2
            exact .inl z2.symm
          · simp only [z] at z2
            exact .inr z2.symm
        exact gp.fate i x ⟨⟨ys, os⟩, by rw [List.getElem?_map, y1, ev]; rfl⟩
      · exact .inl ⟨ys, by rw [wb_no rs ps δ hj]; exact z⟩
    · exact .inr ⟨o, gp.go.ex _ _ z⟩
end
end Mn

-- Mn9
set_option Elab.async false
set_option linter.all false
set_option maxRecDepth 100000
set_option autoImplicit false
namespace Mn
open PySem PySem.Spec L2

/-! ### the operations -/
theorem big_le : big ≤ sizeLine := by decide
theorem le_big {n : Nat} (h : n ≤ big) : n ≤ sizeLine := Nat.le_trans h big_le
theorem lt_big {n : Nat} (h : n < big) : n < sizeLine := Nat.lt_of_lt_of_le h big_le
section
variable {K : PySem.W.Frag} {G H : Hp} {v : V} {d : D}
mutual
theorem Den.dp (s : Same G H) : ∀ {v : V} {d : D}, Den K G v d → d.eqOk = true → Dp K H v d.py
  | _, _, .non, _ => by simp only [D.py]; exact .non
  | _, _, .bl b, _ => by simp only [D.py]; exact .bl b
  | _, _, .int i, _ => by simp only [D.py]; exact .int i
  | _, _, .str x, _ => by simp only [D.py]; exact .str x
  | _, _, .lst h t, e => by simp only [D.py]; exact .lst (.inl (.inl (s _ _ h))) (DenL.dp s t (by simpa [D.eqOk] using e))
  | _, _, .rol h t, e => by simp only [D.py]; exact .lst (sqL_mono s h) (DenL.dp s t (by simpa [D.eqOk] using e))
  | _, _, .tup h t, e => by simp only [D.py]; exact .tup (sqT_mono s h) (DenL.dp s t (by simpa [D.eqOk] using e))
  | _, _, .dct h t, e => by simp [D.eqOk] at e
  | _, _, .obj h _ t, e => by simp [D.eqOk] at e
theorem DenL.dp (s : Same G H) : ∀ {vs : List V} {ds : List D}, DenL K G vs ds → eqOks ds = true → DpAll K H vs (pys ds)
  | _, _, .nil, _ => by simp only [pys]; exact .nil
  | _, _, .cons h t, e => by
    simp only [eqOks, Bool.and_eq_true] at e
    simp only [pys]
    exact .cons (Den.dp s h e.1) (DenL.dp s t e.2)
end
theorem See.dp (s : Same G H) (h : See K G H v d) (e : d.eqOk = true) : Dp K H v d.py := by
  rcases h with h | ⟨a, vs, xs, rfl, rfl, h1, h2⟩
  · exact h.dp s e
  · simp only [D.py]
    exact .lst (.inl (.inl h1)) (h2.dp s (by simpa [D.eqOk] using e))
theorem Den.flat_eq {w : V} (h : Den K G v d) (e : d.flat = some w) : v = w ∧ flatV w = true := by
  cases h <;> first | (cases e; done) | (cases e; exact ⟨rfl, rfl⟩)
theorem See.flat_eq {w : V} (h : See K G H v d) (e : d.flat = some w) : v = w ∧ flatV w = true := by
  rcases h with h | ⟨a, vs, xs, rfl, rfl, h1, h2⟩
  · exact h.flat_eq e
  · cases e
theorem DenL.flats_eq : ∀ {vs : List V} {ds : List D} {ws : List V}, DenL K G vs ds → flats ds = some ws → vs = ws ∧ ws.all flatV = true
  | _, _, _, .nil, e => by cases e; exact ⟨rfl, rfl⟩
  | _, _, _, .cons h t, e => by
    unfold flats at e
    split at e
    · rename_i w ws q1 q2
      cases e
      obtain ⟨rfl, f1⟩ := h.flat_eq q1
      obtain ⟨rfl, f2⟩ := t.flats_eq q2
      exact ⟨rfl, by rw [List.all_cons, f1, f2] <;> rfl⟩
    · cases e
theorem DenL.ints_eq : ∀ {vs : List V} {ds : List D} {ns : List Int}, DenL K G vs ds → asInts ds = some ns → vs = ns.map V.int
  | _, _, _, .nil, e => by cases e; rfl
  | _, _, _, .cons h t, e => by
    cases h <;> simp only [asInts] at e <;> first | (cases e; done) | skip
    rename_i i
    obtain ⟨ms, q1, q2⟩ := Option.map_eq_some_iff.mp e
    subst q2
    rw [t.ints_eq q1] <;> rfl
theorem DenL.bls_eq : ∀ {vs : List V} {ds : List D} {ns : List Bool}, DenL K G vs ds → asBls ds = some ns → vs = ns.map V.bl
  | _, _, _, .nil, e => by cases e; rfl
  | _, _, _, .cons h t, e => by
    cases h <;> simp only [asBls] at e <;> first | (cases e; done) | skip
    rename_i i
    obtain ⟨ms, q1, q2⟩ := Option.map_eq_some_iff.mp e
    subst q2
    rw [t.bls_eq q1] <;> rfl
theorem DenL.rep {vs : List V} {ds : List D} (h : DenL K G vs ds) : ∀ n : Nat, DenL K G (List.replicate n vs).flatten (List.replicate n ds).flatten
  | 0 => .nil
  | n + 1 => by
    rw [List.replicate_succ, List.replicate_succ, List.flatten_cons, List.flatten_cons]
    exact h.append (h.rep n)
theorem DenL.atI_eq {vs : List V} {ds : List D} {i : Int} (h : DenL K G vs ds) (e : atI ds i = some d) : ∃ v, atI vs i = some v ∧ Den K G v d := by
  unfold atI at e ⊢
  obtain ⟨j, q1, q2⟩ := Option.bind_eq_some_iff.mp e
  obtain ⟨v, z1, z2⟩ := h.get q2
  exact ⟨v, by rw [h.length, q1]; exact z1, z2⟩
end
theorem maxI_mem : ∀ (x : Int) (r : List Int), maxI (x :: r) ∈ x :: r ∧ ∀ y ∈ x :: r, y ≤ maxI (x :: r)
  | x, [] => by simp [maxI]
  | x, y :: r => by
    obtain ⟨h1, h2⟩ := maxI_mem y r
    simp only [maxI]
    split
    · rename_i c
      refine ⟨List.mem_cons_of_mem _ h1, fun z hz => ?_⟩
      rcases List.mem_cons.mp hz with e | e
      · rw [e]; omega
      · exact h2 z e
    · rename_i c
      refine ⟨List.mem_cons_self, fun z hz => ?_⟩
      rcases List.mem_cons.mp hz with e | e
      · rw [e]; omega
      · have := h2 z e; omega
theorem minI_mem : ∀ (x : Int) (r : List Int), minI (x :: r) ∈ x :: r ∧ ∀ y ∈ x :: r, minI (x :: r) ≤ y
  | x, [] => by simp [minI]
  | x, y :: r => by
    obtain ⟨h1, h2⟩ := minI_mem y r
    simp only [minI]
    split
    · rename_i c
      refine ⟨List.mem_cons_of_mem _ h1, fun z hz => ?_⟩
      rcases List.mem_cons.mp hz with e | e
      · rw [e]; omega
      · exact h2 z e
    · rename_i c
      refine ⟨List.mem_cons_self, fun z hz => ?_⟩
      rcases List.mem_cons.mp hz with e | e
      · rw [e]; omega
      · have := h2 z e; omega

section
variable {K : PySem.W.Frag} {T : List (Addr × Str)} {δ : List Sl} {σ : L2.St} {G H : Hp} {x y : V} {dx dy : D} {Q : VK}
/-- what an operation may go on to -/
abbrev Nxt (K : PySem.W.Frag) (T : List (Addr × Str)) (δ : List Sl) (σ : L2.St) (G H : Hp) (Q : VK) (r : RD) : Prop := ∀ v G' H', Rel K T δ σ G' H' → GoE δ δ σ G H G' H' → RV K G' H' σ H v r.r → Q v H'
theorem nxt_val {v : V} {d : D} (R : Rel K T δ σ G H) (q : Nxt K T δ σ G H Q (.val d)) (h : Den K G v d) : Q v H := q v G H R GoE.refl h
theorem nxt_new {xs : List D} {vs : List V} {p : Addr} (R : Rel K T δ σ G H) (q : Nxt K T δ σ G H Q (.new xs)) (h : DenL K G vs xs) (hp : H p = none) : Q (.ref p) (upd H p (.lst vs)) :=
  q _ G _ (R.laid hp) (GoE.laid hp) ⟨p, vs, rfl, upd_same, R.gfree hp, hp, h⟩
theorem nxt_tup {xs : List D} {vs : List V} {p : Addr} (R : Rel K T δ σ G H) (q : Nxt K T δ σ G H Q (.val (.tup xs))) (h : DenL K G vs xs) (hp : H p = none) : Q (.ref p) (upd H p (.tup vs)) :=
  q _ _ _ (R.laidG hp (fun ps z => by cases z)) (GoE.laidG R hp) (Den.tup (.inl (.inl upd_same)) (h.mono (same_new2 (R.gfree hp))))
theorem bin_ok {op : Operator} {r : RD} (R : Rel K T δ σ G H) (hx : See K G H x dx) (hy : See K G H y dy) (e : binD op dx dy = some r) (q : Nxt K T δ σ G H Q r) : rBin op x y H Q := by
  unfold binD at e
  split at e
  · cases e
    exact .inl ⟨_, _, hx.int, hy.int, nxt_val R q (.int _)⟩
  · split at e
    · rename_i c
      cases e
      exact .inr (.inl ⟨_, _, hx.str, hy.str, le_big c, nxt_val R q (.str _)⟩)
    · cases e
  · split at e
    · rename_i c
      cases e
      obtain ⟨a, vs, e1, h1, n1⟩ := hx.lst R.sub
      obtain ⟨b, ws, e2, h2, n2⟩ := hy.lst R.sub
      exact .inr (.inr ⟨a, b, vs, ws, e1, e2, h1, h2, by rw [n1.length, n2.length]; exact le_big c, fun p hp => nxt_new R q (n1.append n2) hp⟩)
    · cases e
  · cases e
    exact ⟨_, _, hx.int, hy.int, nxt_val R q (.int _)⟩
  · split at e
    · rename_i c
      cases e
      exact .inl ⟨_, _, hx.int, hy.int, c, nxt_val R q (.int _)⟩
    · cases e
  · split at e
    · rename_i c
      cases e
      obtain ⟨a, vs, e1, h1, n1⟩ := hx.lst R.sub
      exact .inr ⟨a, _, vs, e1, hy.int, h1, by omega, by omega, by rw [n1.length]; exact le_big c.2.2, fun p hp => nxt_new R q (n1.rep _) hp⟩
    · cases e
  · split at e
    · rename_i c
      cases e
      exact ⟨_, _, hx.int, hy.int, c, nxt_val R q (.int _)⟩
    · cases e
  · split at e
    · rename_i c
      cases e
      exact ⟨_, _, hx.int, hy.int, c, nxt_val R q (.int _)⟩
    · cases e
  · split at e
    · rename_i c
      cases e
      exact ⟨_, _, hx.int, hy.int, c, nxt_val R q (.int _)⟩
    · cases e
  · cases e
theorem in_ok {ys : List D} {b neg : Bool} (hx : See K G H x dx) (hy : ∃ a vs, y = .ref a ∧ (SqL K H a vs ∨ SqT K H a vs) ∧ DenL K G vs ys) (e : inD dx ys = some b) (q : Q (.bl (if neg then !b else b)) H) : rIn K neg x y H Q := by
  unfold inD at e
  split at e
  · rename_i w ws q1 q2
    cases e
    obtain ⟨a, vs, rfl, h1, h2⟩ := hy
    obtain ⟨rfl, f1⟩ := hx.flat_eq q1
    obtain ⟨rfl, f2⟩ := h2.flats_eq q2
    exact ⟨a, vs, rfl, h1, f1, f2, q⟩
  · cases e
theorem eq_ok {b : Bool} (s : Same G H) (hx : See K G H x dx) (hy : See K G H y dy) (e : eqD dx dy = some b) : ∃ d1 d2, Dp K H x d1 ∧ Dp K H y d2 ∧ SeqAt.shaped d1 = true ∧ SeqAt.shaped d2 = true ∧ PyData.eqv d1 d2 = b := by
  unfold eqD at e
  split at e
  · rename_i c
    simp only [Bool.and_eq_true] at c
    obtain ⟨⟨⟨c1, c2⟩, c3⟩, c4⟩ := c
    exact ⟨_, _, hx.dp s c1, hy.dp s c2, c3, c4, Option.some.inj e⟩
  · cases e
theorem cmp_ok {op : CmpOp} {b : Bool} (R : Rel K T δ σ G H) (hx : See K G H x dx) (hy : See K G H y dy) (e : cmpD op dx dy = some b) (q : Q (.bl b) H) : rCmp K op x y H Q := by
  unfold cmpD at e
  split at e
  · cases e; exact ⟨_, _, hx.int, hy.int, q⟩
  · cases e; exact ⟨_, _, hx.int, hy.int, q⟩
  · cases e; exact ⟨_, _, hx.int, hy.int, q⟩
  · cases e; exact ⟨_, _, hx.int, hy.int, q⟩
  · obtain ⟨d1, d2, h1, h2, h3, h4, rfl⟩ := eq_ok R.sub hx hy e
    exact ⟨d1, d2, h1, h2, h3, h4, q⟩
  · obtain ⟨c, e1, e2⟩ := Option.map_eq_some_iff.mp e
    obtain ⟨d1, d2, h1, h2, h3, h4, rfl⟩ := eq_ok R.sub hx hy e1
    subst e2
    exact ⟨d1, d2, h1, h2, h3, h4, q⟩
  · obtain ⟨a, vs, e1, h1, h2⟩ := hy.seqL R.sub
    exact in_ok (neg := false) hx ⟨a, vs, e1, .inl h1, h2⟩ e q
  · obtain ⟨a, vs, e1, h1, h2⟩ := hy.tup R.sub
    exact in_ok (neg := false) hx ⟨a, vs, e1, .inr h1, h2⟩ e q
  · obtain ⟨c, e1, e2⟩ := Option.map_eq_some_iff.mp e
    subst e2
    obtain ⟨a, vs, e3, h1, h2⟩ := hy.seqL R.sub
    exact in_ok (neg := true) hx ⟨a, vs, e3, .inl h1, h2⟩ e1 q
  · obtain ⟨c, e1, e2⟩ := Option.map_eq_some_iff.mp e
    subst e2
    obtain ⟨a, vs, e3, h1, h2⟩ := hy.tup R.sub
    exact in_ok (neg := true) hx ⟨a, vs, e3, .inr h1, h2⟩ e1 q
  · cases e; exact .inl ⟨_, _, hx.bl, hy.bl, q⟩
  · cases e; rw [hx.non]; exact .inr ⟨hy.non, q⟩
  · cases e; rw [hx.bl]; exact .inr ⟨hy.non, q⟩
  · cases e; rw [hx.int]; exact .inr ⟨hy.non, q⟩
  · cases e; rw [hx.str]; exact .inr ⟨hy.non, q⟩
  · cases e
    obtain ⟨a, vs, e1, h1, h2⟩ := hx.lst R.sub
    rw [e1]
    exact .inr ⟨hy.non, q⟩
  · cases e
theorem ix_ok {d : D} (R : Rel K T δ σ G H) (hx : See K G H x dx) (hy : See K G H y dy) (e : ixD dx dy = some d) (q : ∀ v, Den K G v d → Q v H) : rIx K x y H Q := by
  unfold ixD at e
  split at e
  · obtain ⟨a, vs, e1, h1, h2⟩ := hx.seqL R.sub
    obtain ⟨v, z1, z2⟩ := h2.atI_eq e
    exact .inl ⟨a, vs, _, v, e1, hy.int, h1, z1, q v z2⟩
  · obtain ⟨a, vs, e1, h1, h2⟩ := hx.rol R.sub
    obtain ⟨v, z1, z2⟩ := h2.atI_eq e
    exact .inl ⟨a, vs, _, v, e1, hy.int, h1, z1, q v z2⟩
  · obtain ⟨a, vs, e1, h1, h2⟩ := hx.tup R.sub
    obtain ⟨v, z1, z2⟩ := h2.atI_eq e
    exact .inr (.inl ⟨a, vs, _, v, e1, hy.int, h1, z1, q v z2⟩)
  · split at e
    · rename_i c
      obtain ⟨k, z1, z2⟩ := Option.map_eq_some_iff.mp e
      subst z2
      exact .inr (.inr ⟨_, _, k, hx.str, hy.int, le_big c, z1, q _ (.str _)⟩)
    · cases e
  · cases e
theorem DenL.cut {vs : List V} {ds : List D} (h : DenL K G vs ds) (lo hi : Option Int) : DenL K G (cutV vs lo hi) (cutD ds lo hi) := by
  unfold cutV cutD
  rw [h.length]
  exact (h.drop _).take _
theorem sl_ok {r : RD} {lo hi : Option Int} (R : Rel K T δ σ G H) (hx : See K G H x dx) (e : slD dx lo hi = some r) (q : Nxt K T δ σ G H Q r) : rSlL K x lo hi H Q := by
  unfold slD at e
  split at e
  · cases e
    obtain ⟨a, vs, e1, h1, h2⟩ := hx.seqL R.sub
    exact ⟨a, vs, e1, h1, fun p hp => nxt_new R q (h2.cut lo hi) hp⟩
  · cases e
theorem ty_ok {n : String} (s : Same G H) (hx : See K G H x dx) (e : tyN dx = some n) : TyX K H x (.type n) := by
  cases dx with
  | non => cases e; rw [hx.non]; exact .base .non
  | bl b => cases e; rw [hx.bl]; exact .base (.bl b)
  | int i => cases e; rw [hx.int]; exact .base (.int i)
  | str z => cases e; rw [hx.str]; exact .base (.str z)
  | lst xs =>
    cases e
    obtain ⟨a, vs, e1, h1, h2⟩ := hx.lst s
    rw [e1]
    exact .base (.lst h1)
  | tup xs =>
    cases e
    obtain ⟨a, vs, e1, h1, h2⟩ := hx.tup s
    rw [e1]
    rcases h1 with (h1 | ⟨o, h1⟩) | ⟨o, its, n, hk, hc, _⟩
    · exact .base (.tup h1)
    · exact .fTuple h1
    · exact .kTuple hk hc
  | dct kvs =>
    cases e
    obtain ⟨a, vs, e1, h1, h2⟩ := hx.dct s
    rw [e1]
    exact .base (.dK h1)
  | rol xs => cases e
  | obj C fs => cases e
theorem isi_ok {t : String} {b : Bool} (s : Same G H) (hx : See K G H x dx) (e : isiD dx t = some b) (q : Q (.bl b) H) : rIsi K [x, .ty t] H Q := by
  unfold isiD at e
  obtain ⟨n, e1, e2⟩ := Option.bind_eq_some_iff.mp e
  exact ⟨x, .ty t, _, _, b, rfl, .ty t, ty_ok s hx e1, kit_ty e2, q⟩
theorem isis_ok {b : Bool} (s : Same G H) (hx : See K G H x dx) : ∀ {ts : List String}, isiDs dx ts = some b → ts ≠ [] → ∃ n, tyN dx = some n ∧ PySem.W.kitAny K (.type n) (ts.map Value.type) = some b
  | [], _, h => absurd rfl h
  | [t], e, _ => by
    unfold isiDs at e
    split at e
    · rename_i q
      obtain ⟨n, e1, e2⟩ := Option.bind_eq_some_iff.mp q
      cases e
      exact ⟨n, e1, kitAny_cons (kit_ty e2) (fun z => by cases z) fun _ => rfl⟩
    · rename_i q
      obtain ⟨n, e1, e2⟩ := Option.bind_eq_some_iff.mp q
      have e : some false = some b := e
      exact ⟨n, e1, kitAny_cons (kit_ty e2) (fun _ => e) fun z => by cases z⟩
    · cases e
  | t :: t2 :: ts, e, _ => by
    unfold isiDs at e
    split at e
    · rename_i q
      obtain ⟨n, e1, e2⟩ := Option.bind_eq_some_iff.mp q
      cases e
      exact ⟨n, e1, kitAny_cons (kit_ty e2) (fun z => by cases z) fun _ => rfl⟩
    · rename_i q
      obtain ⟨n, e1, e2⟩ := Option.bind_eq_some_iff.mp q
      obtain ⟨m, f1, f2⟩ := isis_ok s hx (ts := t2 :: ts) e (by simp)
      rw [e1] at f1
      cases f1
      exact ⟨n, e1, kitAny_cons (kit_ty e2) (fun _ => f2) fun z => by cases z⟩
    · cases e
theorem Sees.one {d : D} {vs : List V} (h : Sees K G H vs [d]) : ∃ v, vs = [v] ∧ See K G H v d := by
  cases h with
  | cons h t => cases t; exact ⟨_, rfl, h⟩
theorem Sees.two {d e : D} {vs : List V} (h : Sees K G H vs [d, e]) : ∃ v w, vs = [v, w] ∧ See K G H v d ∧ See K G H w e := by
  cases h with
  | cons h t =>
    obtain ⟨w, rfl, h2⟩ := t.one
    exact ⟨_, w, rfl, h, h2⟩
theorem bi_ok {b : Bi} {ds : List D} {vs : List V} {r : RD} (R : Rel K T δ σ G H) (h : Sees K G H vs ds) (e : biD b ds = some r) (q : Nxt K T δ σ G H Q r) : rBi K b vs H Q := by
  unfold biD at e
  split at e
  · cases e
    obtain ⟨v, rfl, hv⟩ := h.one
    obtain ⟨a, ws, rfl, h1, h2⟩ := hv.seqL R.sub
    exact ⟨a, ws, rfl, .inl h1, by rw [h2.length]; exact nxt_val R q (.int _)⟩
  · cases e
    obtain ⟨v, rfl, hv⟩ := h.one
    obtain ⟨a, ws, rfl, h1, h2⟩ := hv.rol R.sub
    exact ⟨a, ws, rfl, .inl h1, by rw [h2.length]; exact nxt_val R q (.int _)⟩
  · cases e
    obtain ⟨v, rfl, hv⟩ := h.one
    obtain ⟨a, ws, rfl, h1, h2⟩ := hv.tup R.sub
    exact ⟨a, ws, rfl, .inr h1, by rw [h2.length]; exact nxt_val R q (.int _)⟩
  · cases e
    obtain ⟨v, rfl, hv⟩ := h.one
    exact ⟨_, by rw [hv.int], nxt_val R q (.int _)⟩
  · cases e
    obtain ⟨v, w, rfl, hv, hw⟩ := h.two
    exact .inl ⟨_, _, by rw [hv.int, hw.int], nxt_val R q (.int _)⟩
  · cases e
    obtain ⟨v, w, rfl, hv, hw⟩ := h.two
    exact .inl ⟨_, _, by rw [hv.int, hw.int], nxt_val R q (.int _)⟩
  · split at e
    · rename_i n ns q1
      cases e
      obtain ⟨v, rfl, hv⟩ := h.one
      obtain ⟨a, ws, rfl, h1, h2⟩ := hv.seqL R.sub
      obtain rfl := h2.ints_eq q1
      refine .inr ⟨a, n :: ns, rfl, h1, by simp, fun m hm hle => ?_⟩
      obtain ⟨z1, z2⟩ := maxI_mem n ns
      have : m = maxI (n :: ns) := Int.le_antisymm (z2 m hm) (hle _ z1)
      rw [this]
      exact nxt_val R q (.int _)
    · cases e
  · split at e
    · rename_i n ns q1
      cases e
      obtain ⟨v, rfl, hv⟩ := h.one
      obtain ⟨a, ws, rfl, h1, h2⟩ := hv.seqL R.sub
      obtain rfl := h2.ints_eq q1
      refine .inr ⟨a, n :: ns, rfl, h1, by simp, fun m hm hle => ?_⟩
      obtain ⟨z1, z2⟩ := minI_mem n ns
      have : m = minI (n :: ns) := Int.le_antisymm (hle _ z1) (z2 m hm)
      rw [this]
      exact nxt_val R q (.int _)
    · cases e
  · cases e
    obtain ⟨v, rfl, hv⟩ := h.one
    exact .inl ⟨_, by rw [hv.int], nxt_val R q (.int _)⟩
  · cases e
    obtain ⟨v, rfl, hv⟩ := h.one
    exact .inr ⟨_, by rw [hv.bl], nxt_val R q (.int _)⟩
  · split at e
    · rename_i c
      cases e
      obtain ⟨v, w, rfl, hv, hw⟩ := h.two
      exact ⟨_, _, by rw [hv.int, hw.int], c, fun p hp => nxt_tup R q (.cons (.int _) (.cons (.int _) .nil)) hp⟩
    · cases e
  · rename_i d
    obtain ⟨c, e1, e2⟩ := Option.map_eq_some_iff.mp e
    subst e2
    obtain ⟨v, rfl, hv⟩ := h.one
    unfold shD at e1
    split at e1
    · rename_i c
      cases e1
      simp only [Bool.and_eq_true, decide_eq_true_eq] at c
      exact ⟨v, d, G, rfl, R.sub, hv, c.1.1.1, c.1.1.2, c.1.2, c.2, nxt_val R q (.str _)⟩
    · cases e1
  · obtain ⟨bs, e1, e2⟩ := Option.map_eq_some_iff.mp e
    subst e2
    obtain ⟨v, rfl, hv⟩ := h.one
    obtain ⟨a, ws, rfl, h1, h2⟩ := hv.seqL R.sub
    obtain rfl := h2.bls_eq e1
    exact ⟨a, bs, rfl, h1, nxt_val R q (.bl _)⟩
  · obtain ⟨bs, e1, e2⟩ := Option.map_eq_some_iff.mp e
    subst e2
    obtain ⟨v, rfl, hv⟩ := h.one
    obtain ⟨a, ws, rfl, h1, h2⟩ := hv.seqL R.sub
    obtain rfl := h2.bls_eq e1
    exact ⟨a, bs, rfl, h1, nxt_val R q (.bl _)⟩
  · cases e
    obtain ⟨v, rfl, hv⟩ := h.one
    obtain ⟨a, ws, rfl, h1, h2⟩ := hv.seqL R.sub
    exact ⟨a, ws, rfl, .inl ⟨h1, fun l hl => nxt_tup R q h2 hl⟩⟩
  · cases e
    obtain ⟨v, rfl, hv⟩ := h.one
    obtain ⟨a, ws, rfl, h1, h2⟩ := hv.seqL R.sub
    exact ⟨a, ws, rfl, .inl h1, fun l hl => nxt_new R q h2 hl⟩
  · cases e
    obtain ⟨v, rfl, hv⟩ := h.one
    obtain ⟨a, ws, rfl, h1, h2⟩ := hv.tup R.sub
    exact ⟨a, ws, rfl, .inr h1, fun l hl => nxt_new R q h2 hl⟩
  · cases e
end
end Mn

-- Mn10
set_option Elab.async false
set_option linter.all false
set_option maxRecDepth 100000
set_option autoImplicit false
namespace Mn
open PySem PySem.Spec L2

/-! ## expressions -/
section
variable (Ω : Wd)
def SE (te : TE) (W : WX) (n : Nat) (δ : List Sl) (o : EO) : Prop := ∀ (σ : L2.St) (G H : Hp) (Q : VK), σ.length = n → Rel Ω.K Ω.T δ σ G H → PostE Ω W σ δ G H Q o → te σ H Q
def ST (tt : TT) (n : Nat) (δ : List Sl) (b : Bool) (δ' : List Sl) : Prop := ∀ (σ : L2.St) (G H : Hp) (Q : Bool → Hp → Prop), σ.length = n → Rel Ω.K Ω.T δ σ G H →
  (∀ G' H', Rel Ω.K Ω.T δ' σ G' H' → GoE δ δ' σ G H G' H' → Q b H') → tt σ H Q
def PostA (W : WX) (σ : L2.St) (δ : List Sl) (G H : Hp) (Q : List V → Hp → Prop) : EA → Prop
  | .ok rs δ' => ∀ vs G' H', Rel Ω.K Ω.T δ' σ G' H' → GoE δ δ' σ G H G' H' → RVs Ω.K G' H' σ H vs rs → Q vs H'
  | .exc c d δ' => ∀ v x G' H', Rel Ω.K Ω.T δ' σ G' H' → GoE δ δ' σ G H G' H' → H' x = some (.xd [("value", v)]) → Den Ω.K G' v d → W (.ref (Ω.ca c)) (some x) σ H'
def SA (ta : TA) (W : WX) (n : Nat) (δ : List Sl) (o : EA) : Prop := ∀ (σ : L2.St) (G H : Hp) (Q : List V → Hp → Prop), σ.length = n → Rel Ω.K Ω.T δ σ G H → PostA Ω W σ δ G H Q o → ta σ H Q
def SOp (to : TO) (n : Nat) (δ : List Sl) (b : Option Int) (δ' : List Sl) : Prop := ∀ (σ : L2.St) (G H : Hp) (Q : Option Int → Hp → Prop), σ.length = n → Rel Ω.K Ω.T δ σ G H →
  (∀ G' H', Rel Ω.K Ω.T δ' σ G' H' → GoE δ δ' σ G H G' H' → Q b H') → to σ H Q
end
section
variable {Ω : Wd} {W : WX} {n : Nat} {δ δ1 δ2 δ3 : List Sl} {ta tb te : TE} {ra rb r : R}
theorem se_two (ha : SE Ω ta W n δ (.ok ra δ1)) (hb : SE Ω tb W n δ1 (.ok rb δ2)) {σ : L2.St} {G H : Hp} {k : V → V → Hp → Prop} (hl : σ.length = n) (Rl : Rel Ω.K Ω.T δ σ G H)
    (hk : ∀ x y G' H', Rel Ω.K Ω.T δ2 σ G' H' → GoE δ δ2 σ G H G' H' → RV Ω.K G' H' σ H x ra → RV Ω.K G' H' σ H y rb → k x y H') : ta σ H fun x H1 => tb σ H1 fun y H2 => k x y H2 :=
  ha σ G H _ hl Rl fun x G1 H1 R1 g1 rx => hb σ G1 H1 _ hl R1 fun y G2 H2 R2 g2 ry => hk x y G2 H2 R2 (g1.trans g2) (rx.stay Rl g1 g2) (ry.back g1)
theorem se_op {ro : R2} {rr : R} (ha : SE Ω ta W n δ (.ok ra δ1)) (hb : SE Ω tb W n δ1 (.ok rb δ2)) {dx dy : D} (ex : ra.see δ2 = some dx) (ey : rb.see δ2 = some dy)
    (ho : ∀ (σ : L2.St) (G H : Hp) (x y : V) (Q : VK), Rel Ω.K Ω.T δ2 σ G H → See Ω.K G H x dx → See Ω.K G H y dy → (∀ v G' H', Rel Ω.K Ω.T δ2 σ G' H' → GoE δ2 δ2 σ G H G' H' → RV Ω.K G' H' σ H v rr → Q v H') → ro x y H Q) :
    SE Ω (tOp ro ta tb) W n δ (.ok rr δ2) := fun σ G H Q hl Rl post => se_two ha hb hl Rl fun x y G2 H2 R2 g2 rx ry =>
  ho _ G2 H2 x y Q R2 (rx.see R2 ex) (ry.see R2 ey) fun v G3 H3 R3 g3 rv => post v G3 H3 R3 (g2.trans g3) (rv.back g2)
theorem st_of (h : SE Ω te W n δ (.ok r δ1)) {b : Bool} (e : (r.see δ1).bind truD = some b) : ST Ω (tB te) n δ b δ1 := fun σ G H Q hl Rl post => h σ G H _ hl Rl fun v G1 H1 R1 g1 rv => by
  obtain ⟨d, e1, e2⟩ := Option.bind_eq_some_iff.mp e
  have s := rv.see R1 e1
  cases d <;> first | (cases e2; done) | skip
  cases e2
  exact ⟨b, s.bl, post G1 H1 R1 g1⟩
theorem st_of' (h : SE Ω te W n δ (.ok r δ1)) {b : Bool} (e : (r.see δ1).bind truD = some b) : ST Ω (tTest te) n δ b δ1 := st_of h e
theorem see_bl {δ : List Sl} {r : R} {b : Bool} (e : (r.see δ).bind truD = some b) : r.see δ = some (.bl b) := by
  obtain ⟨d, e1, e2⟩ := Option.bind_eq_some_iff.mp e
  cases d <;> first | (cases e2; done) | skip
  cases e2
  exact e1
theorem sa_nil : SA Ω tNil W n δ (.ok [] δ) := fun σ G H Q hl Rl post => post [] G H Rl GoE.refl .nil
theorem sa_cons {tr : TA} {rs : List R} (h1 : SE Ω te W n δ (.ok r δ1)) (h2 : SA Ω tr W n δ1 (.ok rs δ2)) : SA Ω (tCons te tr) W n δ (.ok (r :: rs) δ2) := fun σ G H Q hl Rl post =>
  h1 σ G H _ hl Rl fun v G1 H1 R1 g1 rv => h2 σ G1 H1 _ hl R1 fun vs G2 H2 R2 g2 rvs => post (v :: vs) G2 H2 R2 (g1.trans g2) (.cons (rv.stay Rl g1 g2) (rvs.back g1) (RVs.later rv rvs))
theorem sa_exc1 {tr : TA} {c : Nat} {d : D} (h1 : SE Ω te W n δ (.exc c d δ1)) : SA Ω (tCons te tr) W n δ (.exc c d δ1) := fun σ G H Q hl Rl post => h1 σ G H _ hl Rl post
theorem sa_exc2 {tr : TA} {c : Nat} {d : D} (h1 : SE Ω te W n δ (.ok r δ1)) (h2 : SA Ω tr W n δ1 (.exc c d δ2)) : SA Ω (tCons te tr) W n δ (.exc c d δ2) := fun σ G H Q hl Rl post =>
  h1 σ G H _ hl Rl fun v G1 H1 R1 g1 rv => h2 σ G1 H1 _ hl R1 fun w x G2 H2 R2 g2 => post w x G2 H2 R2 (g1.trans g2)
theorem se_un {ru : V → Hp → VK → Prop} {rr : R} (ha : SE Ω ta W n δ (.ok ra δ1)) {dx : D} (ex : ra.see δ1 = some dx)
    (ho : ∀ (σ : L2.St) (G H : Hp) (x : V) (Q : VK), Rel Ω.K Ω.T δ1 σ G H → See Ω.K G H x dx → (∀ v G' H', Rel Ω.K Ω.T δ1 σ G' H' → GoE δ1 δ1 σ G H G' H' → RV Ω.K G' H' σ H v rr → Q v H') → ru x H Q) :
    SE Ω (tUn ru ta) W n δ (.ok rr δ1) := fun σ G H Q hl Rl post => ha σ G H _ hl Rl fun x G2 H2 R2 g2 rx =>
  ho _ G2 H2 x Q R2 (rx.see R2 ex) fun v G3 H3 R3 g3 rv => post v G3 H3 R3 (g2.trans g3) (rv.back g2)
/-- a display -/
theorem se_lst {tr : TA} {rs : List R} {ds : List D} (h : SA Ω tr W n δ (.ok rs δ1)) (e : frzs δ1 rs = some (ds, δ2)) (hz : ds.length ≤ big) : SE Ω (tLst tr) W n δ (.ok (.new ds) δ2) := fun σ G H Q hl Rl post =>
  h σ G H _ hl Rl fun vs G1 H1 R1 g1 rvs => by
    obtain ⟨G2, R2, g2, dn, _⟩ := frzs_ok Rl g1 R1 rvs e
    refine ⟨by rw [dn.length]; exact le_big hz, fun p hp => post _ G2 _ (R2.laid hp) (g2.trans (GoE.laid hp)) ⟨p, vs, rfl, upd_same, R2.gfree hp, g2.go.back hp, dn⟩⟩
theorem se_tup {tr : TA} {rs : List R} {ds : List D} (h : SA Ω tr W n δ (.ok rs δ1)) (e : frzs δ1 rs = some (ds, δ2)) (hz : ds.length ≤ big) : SE Ω (tTup tr) W n δ (.ok (.val (.tup ds)) δ2) := fun σ G H Q hl Rl post =>
  h σ G H _ hl Rl fun vs G1 H1 R1 g1 rvs => by
    obtain ⟨G2, R2, g2, dn, _⟩ := frzs_ok Rl g1 R1 rvs e
    refine ⟨by rw [dn.length]; exact le_big hz, fun p hp => post _ _ _ (R2.laidG hp (fun ps z => by cases z)) (g2.trans (GoE.laidG R2 hp)) (Den.tup (.inl (.inl upd_same)) (dn.mono (same_new2 (R2.gfree hp))))⟩
/-- a call -/
theorem se_call {tr : TA} {rs : List R} {cf : Nat → List Sl → Option CO} {f : Nat} {o : EO} (h : SA Ω tr W n δ (.ok rs δ1)) (e : callD cf f rs δ1 = some o) :
    SE Ω (fun σ H Q => tr σ H fun vs H1 => SpF Ω (cf f) vs H1 Q fun c d H' => W c d σ H') W n δ o := fun σ G H Q hl Rl post => h σ G H _ hl Rl fun vs G1 H1 R1 g1 rvs => by
  unfold callD at e
  split at e
  · rename_i as ea
    split at e
    · rename_i nd
      have ra := arg_rel Rl g1 R1 rvs ea nd
      split at e
      · rename_i rr ps ec
        cases e
        refine ⟨as, G1, _, ec, ra, fun v G2 H2 Rp gp rv => ?_⟩
        obtain ⟨R2, g2⟩ := wb_ok Rl g1 R1 rvs ea nd Rp gp
        refine post v G2 H2 R2 g2 ?_
        cases rr with
        | val d => exact rv
        | new xs =>
          obtain ⟨a, ws, z1, z2, z3, z4, z5⟩ := rv
          exact ⟨a, ws, z1, z2, z3, g1.go.back z4, z5⟩
      · rename_i c d ps ec
        cases e
        refine ⟨as, G1, _, ec, ra, fun v x G2 H2 Rp gp hx dn => ?_⟩
        obtain ⟨R2, g2⟩ := wb_ok Rl g1 R1 rvs ea nd Rp gp
        exact post v x G2 H2 R2 g2 hx dn
      · cases e
    · cases e
  · cases e
end
end Mn

-- Mn11
set_option Elab.async false
set_option linter.all false
set_option maxRecDepth 100000
set_option autoImplicit false
namespace Mn
open PySem PySem.Spec L2

/-! ### a list of one's own is changed -/
section
variable {K : PySem.W.Frag} {T : List (Addr × Str)} {δ δ0 : List Sl} {σ : L2.St} {G H G0 H0 : Hp} {i : Nat} {xs ys : List D} {a : Addr} {ws us : List V}
theorem ow_set {s : Sl} {j : Nat} {zs : List D} (li : i < δ.length) (h : Ow (δ.set i s)[j]? zs) : (j = i ∧ Ow (some s) zs) ∨ (j ≠ i ∧ Ow δ[j]? zs) := by
  by_cases hj : j = i
  · subst hj
    rw [List.getElem?_set_self li] at h
    exact .inl ⟨rfl, h⟩
  · rw [List.getElem?_set_ne (Ne.symm hj)] at h
    exact .inr ⟨hj, h⟩
theorem own_put (o : δ[i]? = some (.own xs)) {b : Addr} (h : Own (δ.set i (.own ys)) σ b) : Own δ σ b := by
  obtain ⟨j, ⟨zs, z⟩, e⟩ := h
  rcases ow_set (lt_of_ow (.inl o)) z with ⟨hj, _⟩ | ⟨hj, z⟩
  · subst hj
    exact ⟨j, ⟨xs, .inl o⟩, e⟩
  · exact ⟨j, ⟨zs, z⟩, e⟩
theorem Rel.put (Rl : Rel K T δ σ G H) (o : δ[i]? = some (.own xs)) (e : σ[i]? = some (some (.ref a))) (d : DenL K G us ys) : Rel K T (δ.set i (.own ys)) σ G (upd H a (.lst us)) := by
  have li := lt_of_ow (.inl o : Ow δ[i]? xs)
  obtain ⟨a', ws, e1, h1, h2, h3⟩ := Rl.own i xs (.inl o)
  rw [e] at e1
  cases e1
  have ne : ∀ b o, G b = some o → b ≠ a := fun b o q z => by
    rw [z, h2] at q
    cases q
  have nl : ∀ b o, H b = some o → b ≠ a → upd H a (.lst us) b = some o := fun b o q z => by
    rw [upd_ne z]
    exact q
  refine ⟨by rw [List.length_set]; exact Rl.len, fun b o q => nl b o (Rl.sub b o q) (ne b o q), Rl.ntb, ?_, fun j d q => ?_, fun j zs q => ?_, fun j k b oj ok => ?_⟩
  · intro p hp
    obtain ⟨ps, t1, t2, t3⟩ := Rl.tab p hp
    have np : p.1 ≠ a := fun z => by
      rw [z, h1] at t1
      cases t1
    refine ⟨ps, nl _ _ t1 np, t2, fun pos cv q => ?_⟩
    obtain ⟨c, q1, q2⟩ := t3 pos cv q
    refine ⟨c, q1, nl _ _ q2 fun z => ?_⟩
    rw [z, h1] at q2
    cases q2
  · by_cases hj : j = i
    · subst hj
      rw [List.getElem?_set_self li] at q
      cases q
    · rw [List.getElem?_set_ne (Ne.symm hj)] at q
      exact Rl.val j d q
  · rcases ow_set li q with ⟨hj, z⟩ | ⟨hj, z⟩
    · subst hj
      obtain rfl : ys = zs := by
        rcases z with z | z
        · exact Sl.own.inj (Option.some.inj z)
        · cases z
      exact ⟨a, us, e, upd_same, h2, d⟩
    · obtain ⟨c, vs, y1, y2, y3, y4⟩ := Rl.own j zs z
      have nc : c ≠ a := fun z' => hj (Rl.sep j i a ⟨⟨zs, z⟩, by rw [← z']; exact y1⟩ ⟨⟨xs, .inl o⟩, e⟩)
      exact ⟨c, vs, y1, nl _ _ y2 nc, y3, y4⟩
  · obtain ⟨⟨zs, z1⟩, e1⟩ := oj
    obtain ⟨⟨zs', z2⟩, e2⟩ := ok
    have q1 : ∃ ts, Ow δ[j]? ts := by
      rcases ow_set li z1 with ⟨hj, _⟩ | ⟨_, z⟩
      · subst hj; exact ⟨xs, .inl o⟩
      · exact ⟨zs, z⟩
    have q2 : ∃ ts, Ow δ[k]? ts := by
      rcases ow_set li z2 with ⟨hj, _⟩ | ⟨_, z⟩
      · subst hj; exact ⟨xs, .inl o⟩
      · exact ⟨zs', z⟩
    exact Rl.sep j k b ⟨q1, e1⟩ ⟨q2, e2⟩
theorem GoE.put (g : GoE δ0 δ σ G0 H0 G H) (Rl : Rel K T δ σ G H) (o : δ[i]? = some (.own xs)) (e : σ[i]? = some (some (.ref a))) : GoE δ0 (δ.set i (.own ys)) σ G0 H0 G (upd H a (.lst us)) := by
  have li := lt_of_ow (.inl o : Ow δ[i]? xs)
  have oa : Own δ σ a := ⟨i, ⟨xs, .inl o⟩, e⟩
  refine ⟨⟨g.go.ex, fun b u q n t => ?_, fun b u q => ?_, g.go.new, fun b q => g.go.grow b (own_put o q)⟩, fun j zs q => ?_, fun j zs q => ?_, fun j x hx => ?_⟩
  · have nb : b ≠ a := fun z => n (by rw [z]; exact g.sub oa)
    rw [upd_ne nb]
    exact g.go.keep b u q n t
  · by_cases hb : b = a
    · rw [hb, upd_same]
      exact ⟨_, rfl⟩
    · rw [upd_ne hb]
      exact g.go.live b u q
  · rcases ow_set li q with ⟨hj, _⟩ | ⟨_, z⟩
    · subst hj
      exact g.less j xs (.inl o)
    · exact g.less j zs z
  · have z := g.lock j zs q
    have hj : j ≠ i := fun y => by
      subst y
      rw [z] at o
      cases o
    rw [List.getElem?_set_ne (Ne.symm hj)]
    exact z
  · by_cases hj : j = i
    · subst hj
      exact .inl ⟨ys, .inl (List.getElem?_set_self li)⟩
    · rw [List.getElem?_set_ne (Ne.symm hj)]
      exact g.fate j x hx
end
section
variable {Ω : Wd} {W : WX} {n : Nat} {δ δ1 δ2 δ3 : List Sl} {ta tb te to : TE} {ra rb r ro : R} {o : EO}
theorem bor_list {K : PySem.W.Frag} {T : List (Addr × Str)} {σ : L2.St} {G1 H1 G2 H2 : Hp} {i : Nat} {x : V} {xs : List D} (R1 : Rel K T δ1 σ G1 H1) (g2 : GoE δ1 δ2 σ G1 H1 G2 H2) (e : σ[i]? = some (some x)) (h : δ2[i]? = some (.own xs)) : tyV K "list" x H1 := by
  obtain ⟨ys, q⟩ := g2.less i xs (.inl h)
  obtain ⟨a, vs, z1, z2, _⟩ := R1.own i ys q
  rw [e] at z1
  cases z1
  exact .inl ⟨rfl, vs, .inl (.inl z2)⟩
theorem recv_own {i : Nat} {m : Me} (hm : m ≠ .get) (h : recv m (.bor i) δ1 = true) : ∃ xs, Ow δ1[i]? xs := by
  cases m with
  | get => exact absurd rfl hm
  | append =>
    simp only [recv] at h
    split at h
    · rename_i xs q; exact ⟨xs, .inl q⟩
    · rename_i xs q; exact ⟨xs, .inr q⟩
    · cases h
  | insert =>
    simp only [recv] at h
    split at h
    · rename_i xs q; exact ⟨xs, .inl q⟩
    · rename_i xs q; exact ⟨xs, .inr q⟩
    · cases h
theorem ty_own {K : PySem.W.Frag} {T : List (Addr × Str)} {σ : L2.St} {G1 H1 : Hp} {i : Nat} {x : V} (R1 : Rel K T δ1 σ G1 H1) (e : σ[i]? = some (some x)) (h : ∃ xs, Ow δ1[i]? xs) : tyV K "list" x H1 := by
  obtain ⟨ys, q⟩ := h
  obtain ⟨a, vs, z1, z2, _⟩ := R1.own i ys q
  rw [e] at z1
  cases z1
  exact .inl ⟨rfl, vs, .inl (.inl z2)⟩
theorem se_append {i : Nat} (ho : SE Ω to W n δ (.ok (.bor i) δ1)) (hr : recv .append (.bor i) δ1 = true) (ha : SE Ω ta W n δ1 (.ok ra δ2)) (e : apD i ra δ2 = some o) : SE Ω (tBM Ω.K "list" rAppend to (tCons ta tNil)) W n δ o := by
  unfold apD at e
  split at e
  · rename_i d δ3 ef
    split at e
    · rename_i xs eo
      split at e
      · rename_i hz
        cases e
        intro σ G H Q hl Rl post
        refine ho σ G H _ hl Rl fun x G1 H1 R1 g1 rx => ?_
        have rx : σ[i]? = some (some x) := rx
        refine ⟨ty_own R1 rx (recv_own (fun z => by cases z) hr), ha σ G1 H1 _ hl R1 fun y G2 H2 R2 g2 ry => ?_⟩
        obtain ⟨G3, R3, g3, dn, _⟩ := frz_ok R1 g2 R2 ry ef
        obtain ⟨a, ws, z1, z2, z3, z4⟩ := R3.own i xs (.inl eo)
        have z1' := z1
        rw [rx] at z1
        cases z1
        refine ⟨a, ws, y, rfl, rfl, z2, by rw [z4.length]; exact lt_big hz, ?_⟩
        exact post .non G3 _ (R3.put eo z1' (z4.append (.cons dn .nil))) ((g1.trans g3).put R3 eo z1') .non
      · cases e
    · cases e
  · cases e
theorem se_insert {i : Nat} (ho : SE Ω to W n δ (.ok (.bor i) δ1)) (hr : recv .insert (.bor i) δ1 = true) (ha : SE Ω ta W n δ1 (.ok ra δ2)) (hb : SE Ω tb W n δ2 (.ok rb δ3)) (e : inD1 i ra rb δ3 = some o) :
    SE Ω (tBM Ω.K "list" rInsert to (tCons ta (tCons tb tNil))) W n δ o := by
  unfold inD1 at e
  split at e
  · rename_i j d δ4 es ef
    split at e
    · rename_i xs eo
      split at e
      · rename_i hz
        cases e
        intro σ G H Q hl Rl post
        refine ho σ G H _ hl Rl fun x G1 H1 R1 g1 rx => ?_
        have rx : σ[i]? = some (some x) := rx
        refine ⟨ty_own R1 rx (recv_own (fun z => by cases z) hr), se_two ha hb hl R1 fun k y G2 H2 R2 g2 rk ry => ?_⟩
        have sk := (rk.see R2 es).int
        subst sk
        obtain ⟨G3, R3, g3, dn, _⟩ := frz_ok R1 g2 R2 ry ef
        obtain ⟨a, ws, z1, z2, z3, z4⟩ := R3.own i xs (.inl eo)
        have z1' := z1
        rw [rx] at z1
        cases z1
        refine ⟨a, ws, j, y, rfl, rfl, z2, by rw [z4.length]; exact lt_big hz.2.2, hz.1, ?_, ?_⟩
        · have := hz.2.1
          have h3 : xs.length < 1000000 := hz.2.2
          omega
        · exact post .non G3 _ (R3.put eo z1' (((z4.take _).append (.cons dn .nil)).append (z4.drop _))) ((g1.trans g3).put R3 eo z1') .non
      · cases e
    · cases e
  · cases e
theorem DenK.find {K : PySem.W.Frag} {G : Hp} {k : Key} : ∀ {vs : List (Key × V)} {ds : List (Key × D)}, DenK K G vs ds → (∀ kv, (ds.find? fun p => decide (p.1 = k)) = some kv → ∃ v, valV vs k = some v ∧ Den K G v kv.2) ∧ ((ds.find? fun p => decide (p.1 = k)) = none → valV vs k = none)
  | _, _, .nil => ⟨fun kv e => by simp at e, fun _ => rfl⟩
  | _, _, .cons (k := k') (v := v) (d := d) h t => by
    obtain ⟨i1, i2⟩ := t.find (k := k)
    unfold valV at i1 i2 ⊢
    by_cases c : k' = k
    · subst c
      simp only [List.find?_cons, decide_true]
      exact ⟨fun kv e => by cases e; exact ⟨v, rfl, h⟩, fun e => by cases e⟩
    · simp only [List.find?_cons, decide_eq_false c]
      exact ⟨i1, i2⟩
theorem key_eq {K : PySem.W.Frag} {G H : Hp} {v : V} {d : D} {k : Key} (h : See K G H v d) (e : keyD d = some k) : v = kV k := by
  cases d <;> first | (cases e; done) | skip
  · cases e; exact h.int
  · cases e; exact h.str
theorem se_get {rc : R} {tc : TE} {δ4 : List Sl} (ho : SE Ω to W n δ (.ok ro δ1)) (hr : recv .get ro δ1 = true) (ha : SE Ω ta W n δ1 (.ok ra δ2)) (hb : SE Ω tb W n δ2 (.ok rb δ3)) (e : gtD ro ra rb δ3 = some o) :
    SE Ω (tDGet2 to ta tb) W n δ o := by
  simp only [recv] at hr
  split at hr
  · rename_i kvs0 es0
    unfold gtD at e
    split at e
    · rename_i kvs key es ek
      obtain ⟨kd, ek1, ek2⟩ := Option.bind_eq_some_iff.mp ek
      intro σ G H Q hl Rl post
      refine ho σ G H _ hl Rl fun x G1 H1 R1 g1 rx => ?_
      obtain ⟨a, vs0, rfl, h0, _⟩ := (rx.see R1 es0).dct R1.sub
      refine ⟨a, rfl, .inl ⟨vs0, .inl h0⟩, se_two ha hb hl R1 fun k y G2 H2 R2 g2 rk ry => ?_⟩
      have sx := rx.stay Rl g1 g2
      obtain ⟨a', vs, ea, h1, dk⟩ := (sx.see R2 es).dct R2.sub
      cases ea
      have sk := key_eq (rk.see R2 ek1) ek2
      subst sk
      obtain ⟨f1, f2⟩ := dk.find (k := key)
      split at e
      · rename_i kv q
        cases e
        obtain ⟨v, z1, z2⟩ := f1 kv q
        refine ⟨some v, ?_, post v G2 H2 R2 (g1.trans g2) z2⟩
        rw [← z1]
        exact DGet.k h1
      · rename_i q
        split at e
        · rename_i d δ5 ef
          cases e
          obtain ⟨G3, R3, g3, dn, _⟩ := frz_ok R1 g2 R2 ry ef
          refine ⟨none, ?_, post y G3 H2 R3 (g1.trans g3) dn⟩
          rw [← f2 q]
          exact DGet.k h1
        · cases e
    · cases e
  · cases hr
end
end Mn

-- Mn12
set_option Elab.async false
set_option linter.all false
set_option maxRecDepth 100000
set_option autoImplicit false
namespace Mn
open PySem PySem.Spec L2

/-! ### what is walked -/
/-- the walk J goes through xs now -/
structure Src (K : PySem.W.Frag) (G H : Hp) (J : L2.It) (xs : List D) : Prop where
  go : ∀ i, i < xs.length → J.go i H
  yl : ∀ i x H', J.yld i H x H' → i < xs.length → H' = H ∧ ∃ d, xs[i]? = some d ∧ Den K G x d
  st : J.stop xs.length H
/-- later on: the locked slots are as they were -/
structure Later (K : PySem.W.Frag) (T : List (Addr × Str)) (δ : List Sl) (σ : L2.St) (G H : Hp) (δ' : List Sl) (σ' : L2.St) (G' H' : Hp) : Prop where
  rel : Rel K T δ' σ' G' H'
  ex : Same G G'
  keep : ∀ b o, H b = some o → ¬ Own δ σ b → (∀ ps, o ≠ .tbl ps) → H' b = some o
  lock : ∀ (i : Nat) (xs : List D), δ[i]? = some (.lock xs) → δ'[i]? = some (.lock xs) ∧ σ'[i]? = σ[i]?
section
variable {K : PySem.W.Frag} {T : List (Addr × Str)} {δ δ' : List Sl} {σ σ' : L2.St} {G H G' H' : Hp} {xs : List D} {a : Addr} {vs : List V}
theorem src_list (h : SqL K H a vs) (d : DenL K G vs xs) : Src K G H (Itl K a) xs := by
  have l := d.length
  refine ⟨fun i hi => ⟨vs, vs[i], h, by simp [l, hi]⟩, fun i x H' y hi => ?_, ⟨vs, h, by omega⟩⟩
  obtain ⟨e, y⟩ := y
  obtain ⟨d', z1, z2⟩ := d.getV (y vs h)
  exact ⟨e, d', z1, z2⟩
theorem src_tup (h : SqT K H a vs) (d : DenL K G vs xs) : Src K G H (Itt K a) xs := by
  have l := d.length
  refine ⟨fun i hi => ⟨vs, vs[i], h, by simp [l, hi]⟩, fun i x H' y hi => ?_, ⟨vs, h, by omega⟩⟩
  obtain ⟨e, y⟩ := y
  obtain ⟨d', z1, z2⟩ := d.getV (y vs h)
  exact ⟨e, d', z1, z2⟩
theorem src_rng {lo : Int} {n : Nat} : Src K G H (Itr lo n) (rngD lo n) := by
  have l : (rngD lo n).length = n := by simp [rngD]
  refine ⟨fun i hi => by rw [l] at hi; exact hi, fun i x H' y hi => ?_, by rw [l]; exact Nat.le_refl _⟩
  obtain ⟨e, y⟩ := y
  subst y
  rw [l] at hi
  refine ⟨e, D.int (lo + (i : Nat)), ?_, .int _⟩
  unfold rngD
  rw [List.getElem?_map, List.getElem?_range hi] <;> rfl
end

section
variable (Ω : Wd)
/-- what was locked was not before -/
def LkOk (δ δ1 : List Sl) : Option (Nat × Sl) → Prop
  | none => True
  | some (i, s) => ∃ xs, s = .own xs ∧ δ1[i]? = some (.lock xs) ∧ ∀ ys, δ[i]? ≠ some (.lock ys)
def SI (wi : TI) (n : Nat) (δ : List Sl) (xs : List D) (δ1 : List Sl) (lk : Option (Nat × Sl)) : Prop := ∀ (σ : L2.St) (G H : Hp) (Rk : L2.It → Hp → Prop), σ.length = n → Rel Ω.K Ω.T δ σ G H →
  (∀ J G' H', Rel Ω.K Ω.T δ1 σ G' H' → GoE δ δ1 σ G H G' H' → LkOk δ δ1 lk → (∀ δ' σ' G2 H2, Later Ω.K Ω.T δ1 σ G' H' δ' σ' G2 H2 → Src Ω.K G2 H2 J xs) → Rk J H') → wi σ H Rk
end
section
variable {Ω : Wd} {W : WX} {n : Nat} {δ δ1 δ2 : List Sl} {te : TE} {r : R} {xs : List D} {lk : Option (Nat × Sl)}
theorem lock_rel {K : PySem.W.Frag} {T : List (Addr × Str)} {σ : L2.St} {G H : Hp} {i : Nat} (Rl : Rel K T δ σ G H) (o : δ[i]? = some (.own xs)) : Rel K T (δ.set i (.lock xs)) σ G H ∧ ∀ δ0 G0 H0, GoE δ0 δ σ G0 H0 G H → GoE δ0 (δ.set i (.lock xs)) σ G0 H0 G H := by
  have li := lt_of_ow (.inl o : Ow δ[i]? xs)
  have ow : ∀ (j : Nat) (zs : List D), Ow (δ.set i (.lock xs))[j]? zs → Ow δ[j]? zs := fun j zs q => by
    rcases ow_set li q with ⟨hj, z⟩ | ⟨_, z⟩
    · subst hj
      rcases z with z | z
      · cases z
      · cases z
        exact .inl o
    · exact z
  refine ⟨⟨by rw [List.length_set]; exact Rl.len, Rl.sub, Rl.ntb, Rl.tab, fun j d q => ?_, fun j zs q => Rl.own j zs (ow j zs q), fun j k b ⟨⟨zs, z1⟩, e1⟩ ⟨⟨zs', z2⟩, e2⟩ => Rl.sep j k b ⟨⟨zs, ow j zs z1⟩, e1⟩ ⟨⟨zs', ow k zs' z2⟩, e2⟩⟩, fun δ0 G0 H0 g => ?_⟩
  · by_cases hj : j = i
    · subst hj
      rw [List.getElem?_set_self li] at q
      cases q
    · rw [List.getElem?_set_ne (Ne.symm hj)] at q
      exact Rl.val j d q
  · refine ⟨⟨g.go.ex, g.go.keep, g.go.live, g.go.new, fun b ⟨j, ⟨zs, z⟩, e⟩ => g.go.grow b ⟨j, ⟨zs, ow j zs z⟩, e⟩⟩, fun j zs q => g.less j zs (ow j zs q), fun j zs q => ?_, fun j x hx => ?_⟩
    have z := g.lock j zs q
    have hj : j ≠ i := fun y => by
      subst y
      rw [z] at o
      cases o
    rw [List.getElem?_set_ne (Ne.symm hj)]
    exact z
    by_cases hj : j = i
    · subst hj
      exact .inl ⟨xs, .inr (List.getElem?_set_self li)⟩
    · rw [List.getElem?_set_ne (Ne.symm hj)]
      exact g.fate j x hx
theorem si_seq (h : SE Ω te W n δ (.ok r δ1)) (e : lockS δ1 r = some (xs, δ2, lk)) : SI Ω (iSeq Ω.K te) n δ xs δ2 lk := by
  intro σ G H Rk hl Rl post
  -- a list whose contents are where they are for good
  have fz : ∀ (K : PySem.W.Frag) {a : Addr} {vs : List V} {G1 H1 : Hp}, SqL K G1 a vs → DenL K G1 vs xs → ∀ δ' σ' G2 H2 δ1 σ1, Later K Ω.T δ1 σ1 G1 H1 δ' σ' G2 H2 → Src K G2 H2 (Itl K a) xs := fun K {a vs G1 H1} h d δ' σ' G2 H2 δ1 σ1 L =>
    src_list (sqL_mono (L.ex.trans L.rel.sub) h) (d.mono L.ex)
  have ft : ∀ (K : PySem.W.Frag) {a : Addr} {vs : List V} {G1 H1 : Hp}, SqT K G1 a vs → DenL K G1 vs xs → ∀ δ' σ' G2 H2 δ1 σ1, Later K Ω.T δ1 σ1 G1 H1 δ' σ' G2 H2 → Src K G2 H2 (Itt K a) xs := fun K {a vs G1 H1} h d δ' σ' G2 H2 δ1 σ1 L =>
    src_tup (sqT_mono (L.ex.trans L.rel.sub) h) (d.mono L.ex)
  have listy : ∀ {δ1 δ2 : List Sl} {r : R}, SE Ω te W n δ (.ok r δ1) → (∀ v G1 H1, Rel Ω.K Ω.T δ1 σ G1 H1 → GoE δ δ1 σ G H G1 H1 → RV Ω.K G1 H1 σ H v r → ∃ a vs, v = .ref a ∧ SqL Ω.K H1 a vs ∧ Rel Ω.K Ω.T δ2 σ G1 H1 ∧ GoE δ δ2 σ G H G1 H1 ∧ LkOk δ δ2 lk ∧ (∀ δ' σ' G2 H2, Later Ω.K Ω.T δ2 σ G1 H1 δ' σ' G2 H2 → Src Ω.K G2 H2 (Itl Ω.K a) xs)) → (∀ J G' H', Rel Ω.K Ω.T δ2 σ G' H' → GoE δ δ2 σ G H G' H' → LkOk δ δ2 lk → (∀ δ' σ' G2 H2, Later Ω.K Ω.T δ2 σ G' H' δ' σ' G2 H2 → Src Ω.K G2 H2 J xs) → Rk J H') → iSeq Ω.K te σ H Rk := fun {δ1 δ2 r} h z post =>
    .inl (h σ G H _ hl Rl fun v G1 H1 R1 g1 rv => by
      obtain ⟨a, vs, e1, h1, R2, g2, l2, L⟩ := z v G1 H1 R1 g1 rv
      exact ⟨a, e1, ⟨vs, h1⟩, post _ G1 H1 R2 g2 l2 L⟩)
  unfold lockS at e
  split at e
  · cases e
    refine listy h (fun v G1 H1 R1 g1 rv => ?_) post
    cases (show Den Ω.K G1 v _ from rv) with
    | lst h1 t => exact ⟨_, _, rfl, .inl (.inl (R1.sub _ _ h1)), R1, g1, True.intro, fun δ' σ' G2 H2 L => fz Ω.K (H1 := H1) (.inl (.inl h1)) t _ _ _ _ _ _ L⟩
  · cases e
    refine listy h (fun v G1 H1 R1 g1 rv => ?_) post
    cases (show Den Ω.K G1 v _ from rv) with
    | rol h1 t => exact ⟨_, _, rfl, sqL_mono R1.sub h1, R1, g1, True.intro, fun δ' σ' G2 H2 L => fz Ω.K (H1 := H1) h1 t _ _ _ _ _ _ L⟩
  · cases e
    refine .inr (h σ G H _ hl Rl fun v G1 H1 R1 g1 rv => ?_)
    cases (show Den Ω.K G1 v _ from rv) with
    | tup h1 t => exact ⟨_, rfl, ⟨_, sqT_mono R1.sub h1⟩, post _ G1 H1 R1 g1 True.intro fun δ' σ' G2 H2 L => ft Ω.K (H1 := H1) h1 t _ _ _ _ _ _ L⟩
  · cases e
    refine listy h (fun v G1 H1 R1 g1 rv => ?_) post
    obtain ⟨a, vs, e1, z2, z3, z4, z5⟩ := rv
    refine ⟨a, vs, e1, .inl (.inl z2), R1, g1, True.intro, fun δ' σ' G2 H2 L => ?_⟩
    have no : ¬ Own δ1 σ a := fun z => by
      obtain ⟨o, q⟩ := Rl.live (g1.sub z)
      rw [z4] at q
      cases q
    exact src_list (.inl (.inl (L.keep a _ z2 no fun ps z => by cases z))) (z5.mono L.ex)
  · rename_i i
    split at e
    · rename_i ys eo
      cases e
      refine listy h (fun v G1 H1 R1 g1 rv => ?_) post
      obtain ⟨R2, g2⟩ := lock_rel R1 eo
      obtain ⟨a, vs, z1, z2, z3, z4⟩ := R1.own i _ (.inl eo)
      have rv : σ[i]? = some (some v) := rv
      rw [rv] at z1
      cases z1
      refine ⟨a, vs, rfl, .inl (.inl z2), R2, g2 _ _ _ g1, ⟨_, rfl, List.getElem?_set_self (lt_of_ow (.inl eo)), fun ys y => by rw [g1.lock i ys y] at eo; cases eo⟩, fun δ' σ' G2 H2 L => ?_⟩
      obtain ⟨l1, l2⟩ := L.lock i _ (List.getElem?_set_self (lt_of_ow (.inl eo)))
      obtain ⟨b, ws, y1, y2, y3, y4⟩ := L.rel.own i _ (.inr l1)
      rw [l2, rv] at y1
      cases y1
      exact src_list (.inl (.inl y2)) y4
    · rename_i ys eo
      cases e
      refine listy h (fun v G1 H1 R1 g1 rv => ?_) post
      obtain ⟨a, vs, z1, z2, z3, z4⟩ := R1.own i _ (.inr eo)
      have rv : σ[i]? = some (some v) := rv
      rw [rv] at z1
      cases z1
      refine ⟨a, vs, rfl, .inl (.inl z2), R1, g1, True.intro, fun δ' σ' G2 H2 L => ?_⟩
      obtain ⟨l1, l2⟩ := L.lock i _ eo
      obtain ⟨b, ws, y1, y2, y3, y4⟩ := L.rel.own i _ (.inr l1)
      rw [l2, rv] at y1
      cases y1
      exact src_list (.inl (.inl y2)) y4
    · rename_i ys eo
      cases e
      refine listy h (fun v G1 H1 R1 g1 rv => ?_) post
      obtain ⟨w, z1, z2⟩ := R1.val i _ eo
      have rv : σ[i]? = some (some v) := rv
      rw [rv] at z1
      cases z1
      cases z2 with
      | lst h1 t => exact ⟨_, _, rfl, .inl (.inl (R1.sub _ _ h1)), R1, g1, True.intro, fun δ' σ' G2 H2 L => fz Ω.K (H1 := H1) (.inl (.inl h1)) t _ _ _ _ _ _ L⟩
    · rename_i ys eo
      cases e
      refine .inr (h σ G H _ hl Rl fun v G1 H1 R1 g1 rv => ?_)
      obtain ⟨w, z1, z2⟩ := R1.val i _ eo
      have rv : σ[i]? = some (some v) := rv
      rw [rv] at z1
      cases z1
      cases z2 with
      | tup h1 t => exact ⟨_, rfl, ⟨_, sqT_mono R1.sub h1⟩, post _ G1 H1 R1 g1 True.intro fun δ' σ' G2 H2 L => ft Ω.K (H1 := H1) h1 t _ _ _ _ _ _ L⟩
    · cases e
  · cases e
theorem se_int1 (h : SE Ω te W n δ (.ok r δ1)) {m : Int} (e : r.see δ1 = some (.int m)) {σ : L2.St} {G H : Hp} {k : V → Hp → Prop} (hl : σ.length = n) (Rl : Rel Ω.K Ω.T δ σ G H)
    (q : ∀ G' H', Rel Ω.K Ω.T δ1 σ G' H' → GoE δ δ1 σ G H G' H' → k (.int m) H') : te σ H k := h σ G H _ hl Rl fun v G1 H1 R1 g1 rv => by
  rw [(rv.see R1 e).int]
  exact q G1 H1 R1 g1
theorem si_rng1 {m : Int} (h : SE Ω te W n δ (.ok r δ1)) (e : r.see δ1 = some (.int m)) (hm : -(big : Int) ≤ m ∧ m ≤ big) : SI Ω (iRng1 (tCons te tNil)) n δ (rngD 0 m.toNat) δ1 none := fun σ G H Rk hl Rl post =>
  se_int1 h e hl Rl fun G1 H1 R1 g1 => by
    have b : (big : Int) = 1000000 := rfl
    exact ⟨m, rfl, by omega, by omega, post _ G1 H1 R1 g1 True.intro fun _ _ _ _ _ => src_rng⟩
theorem si_rng2 {ta tb : TE} {ra rb : R} {i j : Int} (ha : SE Ω ta W n δ (.ok ra δ1)) (hb : SE Ω tb W n δ1 (.ok rb δ2)) (ea : ra.see δ2 = some (.int i)) (eb : rb.see δ2 = some (.int j)) (hm : -(big : Int) ≤ i ∧ i ≤ big ∧ -(big : Int) ≤ j ∧ j ≤ big) :
    SI Ω (iRng2 (tCons ta (tCons tb tNil))) n δ (rngD i (j - i).toNat) δ2 none := fun σ G H Rk hl Rl post =>
  se_two ha hb hl Rl fun x y G2 H2 R2 g2 rx ry => by
    have b : (big : Int) = 1000000 := rfl
    have ex := (rx.see R2 ea).int
    have ey := (ry.see R2 eb).int
    subst ex
    subst ey
    exact ⟨i, j, rfl, ⟨by omega, by omega, by omega, by omega⟩, post _ G2 H2 R2 g2 True.intro fun _ _ _ _ _ => src_rng⟩
end
end Mn

-- Mn13
set_option Elab.async false
set_option linter.all false
set_option maxRecDepth 100000
set_option autoImplicit false
namespace Mn
open PySem PySem.Spec L2

/-! ### a slot hidden, filled, shown again -/
/-- no list of one's own -/
def Sl.free : Sl → Bool
  | .own _ => false
  | .lock _ => false
  | _ => true
theorem Sl.no_ow {s : Sl} (h : s.free = true) {zs : List D} : ¬ Ow (some s) zs := fun z => by
  rcases z with z | z <;> (cases z; cases h)
section
variable {K : PySem.W.Frag} {T : List (Addr × Str)} {δ δ1 δ2 : List Sl} {σ : L2.St} {G H G1 H1 G2 H2 : Hp} {x : Nat} {s s' : Sl} {w w' : Option V} {a : Addr}
theorem own_hide (lx : x < δ.length) (h : s.free = true) {i : Nat} {b : Addr} (o : OwnAt (δ.set x s) (σ.set x w) i b) : i ≠ x ∧ OwnAt δ σ i b := by
  obtain ⟨⟨zs, z⟩, e⟩ := o
  rcases ow_set lx z with ⟨_, z⟩ | ⟨hj, z⟩
  · exact absurd z (Sl.no_ow h)
  · rw [List.getElem?_set_ne (Ne.symm hj)] at e
    exact ⟨hj, ⟨zs, z⟩, e⟩
theorem own_show {i : Nat} {b : Addr} (hi : i ≠ x) (o : OwnAt δ σ i b) : OwnAt (δ.set x s) (σ.set x w) i b := by
  obtain ⟨⟨zs, z⟩, e⟩ := o
  exact ⟨⟨zs, by rw [List.getElem?_set_ne (Ne.symm hi)]; exact z⟩, by rw [List.getElem?_set_ne (Ne.symm hi)]; exact e⟩
/-- only what is not owned matters little -/
theorem own_any (lx : x < δ.length) (h : s.free = true) (h' : s'.free = true) {b : Addr} : Own (δ.set x s) (σ.set x w) b → Own (δ.set x s') (σ.set x w') b := fun ⟨i, o⟩ => by
  obtain ⟨hi, o⟩ := own_hide lx h o
  exact ⟨i, own_show hi o⟩
theorem Rel.fill (Rl : Rel K T δ σ G H) (lx : x < δ.length) (h : s.free = true) (hv : ∀ d, s = .val d → ∃ v, w = some v ∧ Den K G v d) : Rel K T (δ.set x s) (σ.set x w) G H := by
  refine ⟨by rw [List.length_set, List.length_set]; exact Rl.len, Rl.sub, Rl.ntb, Rl.tab, fun j d q => ?_, fun j zs q => ?_, fun j k b o1 o2 => ?_⟩
  · by_cases hj : j = x
    · subst hj
      rw [List.getElem?_set_self lx] at q
      obtain ⟨v, e1, e2⟩ := hv d (Option.some.inj q)
      rw [List.getElem?_set_self (by rw [Rl.len]; exact lx), e1]
      exact ⟨v, rfl, e2⟩
    · rw [List.getElem?_set_ne (Ne.symm hj)] at q ⊢
      exact Rl.val j d q
  · rcases ow_set lx q with ⟨_, z⟩ | ⟨hj, z⟩
    · exact absurd z (Sl.no_ow h)
    · rw [List.getElem?_set_ne (Ne.symm hj)]
      exact Rl.own j zs z
  · exact Rl.sep j k b (own_hide lx h o1).2 (own_hide lx h o2).2
/-- a list that no slot holds is changed -/
theorem Rel.sideO (Rl : Rel K T δ σ G H) {o o' : HO} (h : H a = some o) (nt : ∀ ps, o ≠ .tbl ps) (nc : ∀ q, o ≠ LamX.CodeO a q) (g : G a = none) (no : ¬ Own δ σ a) : Rel K T δ σ G (upd H a o') := by
  have nl : ∀ b o, H b = some o → b ≠ a → upd H a o' b = some o := fun b o q z => by
    rw [upd_ne z]
    exact q
  refine ⟨Rl.len, fun b o q => nl b o (Rl.sub b o q) (fun z => by rw [z, g] at q; cases q), Rl.ntb, ?_, Rl.val, fun j zs q => ?_, Rl.sep⟩
  · intro p hp
    obtain ⟨ps, t1, t2, t3⟩ := Rl.tab p hp
    have np : p.1 ≠ a := fun z => by
      rw [z, h] at t1
      exact nt ps (Option.some.inj t1)
    refine ⟨ps, nl _ _ t1 np, t2, fun pos cv q => ?_⟩
    obtain ⟨c, q1, q2⟩ := t3 pos cv q
    refine ⟨c, q1, nl _ _ q2 fun z => ?_⟩
    rw [z, h] at q2
    exact nc _ (Option.some.inj q2)
  · obtain ⟨c, us, y1, y2, y3, y4⟩ := Rl.own j zs q
    exact ⟨c, us, y1, nl _ _ y2 (fun z => no ⟨j, ⟨zs, q⟩, by rw [← z]; exact y1⟩), y3, y4⟩
theorem Rel.side (Rl : Rel K T δ σ G H) {vs us : List V} (h : H a = some (.lst vs)) (g : G a = none) (no : ¬ Own δ σ a) : Rel K T δ σ G (upd H a (.lst us)) :=
  Rl.sideO h (fun ps z => by cases z) (fun q z => by cases z) g no
theorem GoE.side (g : GoE δ δ1 σ G H G1 H1) (h : H a = none) {o : HO} : GoE δ δ1 σ G H G1 (upd H1 a o) := by
  have ne : ∀ b o, H b = some o → b ≠ a := fun b o q z => by
    rw [z, h] at q
    cases q
  refine ⟨⟨g.go.ex, fun b o q n t => ?_, fun b o q => ?_, g.go.new, g.go.grow⟩, g.less, g.lock, g.fate⟩
  · rw [upd_ne (ne b o q)]
    exact g.go.keep b o q n t
  · rw [upd_ne (ne b o q)]
    exact g.go.live b o q
theorem GoE.un_own (R0 : Rel K T δ σ G H) (g : GoE δ δ1 σ G H G1 H1) (h : H a = none) : ¬ Own δ1 σ a := fun z => by
  obtain ⟨o, q⟩ := R0.live (g.sub z)
  rw [h] at q
  cases q
/-- what is of no slot and not for good is not for good later -/
theorem GoE.not_good (g : GoE δ δ1 σ G H G1 H1) {o : HO} (h : H a = some o) (hg : G a = none) (no : ¬ Own δ σ a) : G1 a = none := by
  cases q : G1 a with
  | none => rfl
  | some o' =>
    rcases g.go.new a o' q with z | z | z
    · rw [hg] at z; cases z
    · rw [h] at z; cases z
    · exact absurd z no
theorem GoE.hide (lx : x < δ.length) (ly : x < δ1.length) (h : s.free = true) (g : GoE (δ.set x s) δ1 (σ.set x w) G H G1 H1) : GoE (δ.set x .un) (δ1.set x .un) (σ.set x none) G H G1 H1 := by
  refine ⟨⟨g.go.ex, fun b o q n t => g.go.keep b o q (fun z => n (own_any lx h rfl z)) t, g.go.live, fun b o q => ?_, fun b q => ?_⟩, fun i zs q => ?_, fun i zs q => ?_, fun i a hx => ?_⟩
  · rcases g.go.new b o q with z | z | z
    · exact .inl z
    · exact .inr (.inl z)
    · exact .inr (.inr (own_any lx h rfl z))
  · obtain ⟨i, o⟩ := q
    obtain ⟨hi, o⟩ := own_hide (σ := σ.set x w) (w := none) ly (s := .un) rfl (by rw [List.set_set]; exact o)
    rcases g.go.grow b ⟨i, o⟩ with z | z
    · exact .inl (own_any lx h rfl z)
    · exact .inr z
  · rcases ow_set ly q with ⟨_, z⟩ | ⟨hj, z⟩
    · exact absurd z (Sl.no_ow rfl)
    · obtain ⟨ys, z⟩ := g.less i zs z
      rw [List.getElem?_set_ne (Ne.symm hj)] at z ⊢
      exact ⟨ys, z⟩
  · by_cases hi : i = x
    · subst hi
      rw [List.getElem?_set_self lx] at q
      cases q
    · rw [List.getElem?_set_ne (Ne.symm hi)] at q ⊢
      exact g.lock i zs (by rw [List.getElem?_set_ne (Ne.symm hi)]; exact q)
  · obtain ⟨hi, o⟩ := own_hide lx (s := .un) rfl hx
    rw [List.getElem?_set_ne (Ne.symm hi)]
    exact g.fate i a (own_show hi o)
theorem show_ok (R1 : Rel K T δ1 σ G1 H1) (lx : x < δ1.length) (ly : x < δ2.length) (es : δ1[x]? = some s) (ns : ∀ zs, s ≠ .lock zs) (R2 : Rel K T (δ2.set x .un) (σ.set x none) G2 H2) (g : GoE (δ1.set x .un) (δ2.set x .un) (σ.set x none) G1 H1 G2 H2) :
    Rel K T (δ2.set x s) σ G2 H2 ∧ GoE δ1 (δ2.set x s) σ G1 H1 G2 H2 := by
  have hide : ∀ b, Own (δ1.set x .un) (σ.set x none) b → Own δ1 σ b := fun b ⟨i, o⟩ => ⟨i, (own_hide lx (s := .un) rfl o).2⟩
  have sown : ∀ zs, Ow (some s) zs → ∃ a vs, σ[x]? = some (some (.ref a)) ∧ H2 a = some (.lst vs) ∧ G2 a = none ∧ DenL K G2 vs zs ∧ ¬ Own (δ2.set x .un) (σ.set x none) a := fun zs z => by
    obtain ⟨a, vs, z1, z2, z3, z4⟩ := R1.own x zs (by rw [es]; exact z)
    have no : ¬ Own (δ1.set x .un) (σ.set x none) a := fun ⟨i, o⟩ => by
      obtain ⟨hi, o⟩ := own_hide lx (s := .un) rfl o
      exact hi (R1.sep i x a o ⟨⟨zs, by rw [es]; exact z⟩, z1⟩)
    exact ⟨a, vs, z1, g.go.keep a _ z2 no (fun ps z => by cases z), g.not_good z2 z3 no, z4.mono g.go.ex, fun z => no (g.sub z)⟩
  have away : ∀ (i : Nat), i ≠ x → ∀ zs, Ow (δ2.set x s)[i]? zs → Ow (δ2.set x .un)[i]? zs ∧ (σ.set x none)[i]? = σ[i]? := fun i hi zs z => by
    rw [List.getElem?_set_ne (Ne.symm hi)] at z
    rw [List.getElem?_set_ne (Ne.symm hi), List.getElem?_set_ne (Ne.symm hi)]
    exact ⟨z, rfl⟩
  have sep : ∀ (i : Nat) (b : Addr), i ≠ x → OwnAt (δ2.set x s) σ i b → ¬ OwnAt (δ2.set x s) σ x b := fun i b hi ⟨⟨zs, z⟩, e⟩ ⟨⟨zs', z'⟩, e'⟩ => by
    rw [List.getElem?_set_self ly] at z'
    obtain ⟨a, vs, y1, y2, y3, y4, y5⟩ := sown zs' z'
    rw [e'] at y1
    cases y1
    obtain ⟨z1, z2⟩ := away i hi zs z
    exact y5 ⟨i, ⟨zs, z1⟩, by rw [z2]; exact e⟩
  refine ⟨⟨?_, R2.sub, R2.ntb, R2.tab, fun j d q => ?_, fun j zs q => ?_, fun j k b o1 o2 => ?_⟩, ⟨⟨g.go.ex, fun b o q n t => g.go.keep b o q (fun z => n (hide b z)) t, g.go.live, fun b o q => ?_, fun b ⟨i, ⟨zs, z⟩, e⟩ => .inl ?_⟩, fun i zs z => ?_, fun i zs z => ?_, fun i a hx => ?_⟩⟩
  · have := R2.len
    rw [List.length_set, List.length_set] at this
    rw [List.length_set]
    exact this
  · by_cases hj : j = x
    · subst hj
      rw [List.getElem?_set_self ly] at q
      obtain ⟨v, y1, y2⟩ := R1.val j d (by rw [es]; exact q)
      exact ⟨v, y1, y2.mono g.go.ex⟩
    · have z := R2.val j d (by rw [List.getElem?_set_ne (Ne.symm hj)] at q ⊢; exact q)
      rw [List.getElem?_set_ne (Ne.symm hj)] at z
      exact z
  · by_cases hj : j = x
    · subst hj
      rw [List.getElem?_set_self ly] at q
      obtain ⟨a, vs, y1, y2, y3, y4, y5⟩ := sown zs q
      exact ⟨a, vs, y1, y2, y3, y4⟩
    · obtain ⟨z1, z2⟩ := away j hj zs q
      have z := R2.own j zs z1
      rw [z2] at z
      exact z
  · by_cases hj : j = x
    · by_cases hk : k = x
      · rw [hj, hk]
      · rw [hj] at o1
        exact absurd o1 (sep k b hk o2)
    · by_cases hk : k = x
      · rw [hk] at o2
        exact absurd o2 (sep j b hj o1)
      · obtain ⟨⟨zs, z⟩, e⟩ := o1
        obtain ⟨⟨zs', z'⟩, e'⟩ := o2
        obtain ⟨y1, y2⟩ := away j hj zs z
        obtain ⟨y3, y4⟩ := away k hk zs' z'
        exact R2.sep j k b ⟨⟨zs, y1⟩, by rw [y2]; exact e⟩ ⟨⟨zs', y3⟩, by rw [y4]; exact e'⟩
  · rcases g.go.new b o q with z | z | z
    · exact .inl z
    · exact .inr (.inl z)
    · exact .inr (.inr (hide b z))
  · by_cases hi : i = x
    · subst hi
      rw [List.getElem?_set_self ly] at z
      exact ⟨i, ⟨zs, by rw [es]; exact z⟩, e⟩
    · obtain ⟨y1, y2⟩ := away i hi zs z
      exact hide b (g.sub ⟨i, ⟨zs, y1⟩, by rw [y2]; exact e⟩)
  · by_cases hi : i = x
    · subst hi
      rw [List.getElem?_set_self ly] at z
      exact ⟨zs, by rw [es]; exact z⟩
    · obtain ⟨y1, y2⟩ := away i hi zs z
      obtain ⟨us, y⟩ := g.less i zs y1
      rw [List.getElem?_set_ne (Ne.symm hi)] at y
      exact ⟨us, y⟩
  · have hi : i ≠ x := fun y => by
      subst y
      rw [es] at z
      exact ns zs (Option.some.inj z)
    have y := g.lock i zs (by rw [List.getElem?_set_ne (Ne.symm hi)]; exact z)
    rw [List.getElem?_set_ne (Ne.symm hi)] at y ⊢
    exact y
  · by_cases hi : i = x
    · subst hi
      rw [List.getElem?_set_self ly]
      obtain ⟨⟨zs, z⟩, _⟩ := hx
      rw [es] at z
      exact .inl ⟨zs, z⟩
    · have y := g.fate i a (own_show hi hx)
      rw [List.getElem?_set_ne (Ne.symm hi)] at y ⊢
      exact y
theorem unlock_ok {lk : Option (Nat × Sl)} (g1 : GoE δ δ1 σ G H G1 H1) (l : LkOk δ δ1 lk) (g2 : GoE δ1 δ2 σ G1 H1 G2 H2) (R2 : Rel K T δ2 σ G2 H2) : Rel K T (unlockS δ2 lk) σ G2 H2 ∧ GoE δ (unlockS δ2 lk) σ G H G2 H2 := by
  cases lk with
  | none => exact ⟨R2, g1.trans g2⟩
  | some p =>
    obtain ⟨i, s⟩ := p
    obtain ⟨xs, e, z1, z2⟩ := l
    subst e
    have o := g2.lock i xs z1
    have li := lt_of_ow (.inr o : Ow δ2[i]? xs)
    have ow : ∀ (j : Nat) (zs : List D), Ow (δ2.set i (.own xs))[j]? zs → Ow δ2[j]? zs := fun j zs q => by
      rcases ow_set li q with ⟨hj, z⟩ | ⟨_, z⟩
      · subst hj
        rcases z with z | z
        · cases z
          exact .inr o
        · cases z
      · exact z
    have g := g1.trans g2
    refine ⟨⟨by show σ.length = (δ2.set i (.own xs)).length; rw [List.length_set]; exact R2.len, R2.sub, R2.ntb, R2.tab, fun j d q => ?_, fun j zs q => R2.own j zs (ow j zs q), fun j k b ⟨⟨zs, z1⟩, e1⟩ ⟨⟨zs', z2⟩, e2⟩ => R2.sep j k b ⟨⟨zs, ow j zs z1⟩, e1⟩ ⟨⟨zs', ow k zs' z2⟩, e2⟩⟩, ⟨⟨g.go.ex, g.go.keep, g.go.live, g.go.new, fun b ⟨j, ⟨zs, z⟩, e⟩ => g.go.grow b ⟨j, ⟨zs, ow j zs z⟩, e⟩⟩, fun j zs q => g.less j zs (ow j zs q), fun j zs q => ?_, fun j x hx => ?_⟩⟩
    · have q : (δ2.set i (.own xs))[j]? = some (.val d) := q
      by_cases hj : j = i
      · subst hj
        rw [List.getElem?_set_self li] at q
        cases q
      · rw [List.getElem?_set_ne (Ne.symm hj)] at q
        exact R2.val j d q
    · have hj : j ≠ i := fun y => by
        subst y
        exact z2 zs q
      show (δ2.set i (.own xs))[j]? = _
      rw [List.getElem?_set_ne (Ne.symm hj)]
      exact g.lock j zs q
    · show (∃ ys, Ow (δ2.set i (.own xs))[j]? ys) ∨ _
      by_cases hj : j = i
      · subst hj
        exact .inl ⟨xs, .inl (List.getElem?_set_self li)⟩
      · rw [List.getElem?_set_ne (Ne.symm hj)]
        exact g.fate j x hx
end

/-! ### a comprehension -/
section
variable {Ω : Wd} {W : WX} {n : Nat} {δ δ1 δ2 : List Sl} {wi : TI} {tt : TT} {te : TE} {xs ys : List D} {lk : Option (Nat × Sl)} {x : Nat} {s : Sl}
theorem se_lc {fe : List Sl → Option EO} {fc : List Sl → Option (Bool × List Sl)} (hi : SI Ω wi n δ xs δ1 lk) (hc : ∀ δ b δ', fc δ = some (b, δ') → ST Ω tt n δ b δ') (he : ∀ δ r δ', fe δ = some (.ok r δ') → SE Ω te W0 n δ (.ok r δ'))
    (e : lcL fe fc x xs (δ1.set x .un) [] = some (ys, δ2)) (es : δ1[x]? = some s) (ns : ∀ zs, s ≠ .lock zs) : SE Ω (tLc wi (gName x) tt te [x]) W n δ (.ok (.new ys) (unlockS (δ2.set x s) lk)) := by
  intro σ G H Q hl Rl post
  refine hi σ G H _ hl Rl fun J G1 H1 R1 g1 lko src p hp => ?_
  have l1 : x < δ1.length := by
    rcases Nat.lt_or_ge x δ1.length with z | z
    · exact z
    · rw [List.getElem?_eq_none z] at es
      cases es
  have lx' : x < σ.length := by rw [R1.len]; exact l1
  have ew : wipe σ [x] = σ.set x none := rfl
  have R1w : Rel Ω.K Ω.T (δ1.set x .un) (σ.set x none) G1 H1 := R1.fill l1 rfl (fun d z => by cases z)
  refine ⟨fun i m Hc => i ≤ xs.length ∧ m = xs.length - i ∧ ∃ δi acc av Gi, lcL fe fc x (xs.drop i) δi acc = some (ys, δ2) ∧ Rel Ω.K Ω.T (δi.set x .un) (σ.set x none) Gi Hc ∧ GoE (δ1.set x .un) (δi.set x .un) (σ.set x none) G1 H1 Gi Hc ∧ Hc p = some (.lst av) ∧ Gi p = none ∧ DenL Ω.K Gi av acc,
    ⟨_, Nat.zero_le _, rfl, δ1.set x .un, [], [], G1, e, by rw [List.set_set]; exact R1w.laid hp, by rw [List.set_set]; exact GoE.laid hp, upd_same, R1.gfree hp, .nil⟩, ?_⟩
  rintro i m Hc ⟨hi', hm, δi, acc, av, Gi, el, Ri, gi, hD, hG, dn⟩
  have li : x < δi.length := by
    have := Ri.len
    rw [List.length_set, List.length_set] at this
    rw [← this]
    exact lx'
  have sr : Src Ω.K Gi Hc J xs := by
    refine src _ _ _ _ ⟨Ri, gi.go.ex, fun b o q no t => gi.go.keep b o q (fun ⟨j, z⟩ => no ⟨j, (own_hide l1 (s := .un) rfl z).2⟩) t, fun j zs q => ?_⟩
    have hj : j ≠ x := fun y => by
      subst y
      rw [es] at q
      exact ns zs (Option.some.inj q)
    exact ⟨gi.lock j zs (by rw [List.getElem?_set_ne (Ne.symm hj)]; exact q), List.getElem?_set_ne (Ne.symm hj)⟩
  by_cases hx : i < xs.length
  · refine .inr ⟨sr.go i hx, fun H' => ∃ m', m' < m ∧ _, fun H' z => z, fun v H' y => ?_⟩
    obtain ⟨eh, d, e1, dv⟩ := sr.yl i v H' y hx
    subst eh
    rw [List.drop_eq_getElem_cons hx] at el
    have ed : xs[i] = d := by
      rw [List.getElem?_eq_getElem hx] at e1
      exact Option.some.inj e1
    rw [ed] at el
    have Rv : Rel Ω.K Ω.T (δi.set x (.val d)) (σ.set x (some v)) Gi H' := by
      have := Ri.fill (x := x) (s := .val d) (w := some v) (by rw [List.length_set]; exact li) rfl (fun d' z => by cases z; exact ⟨v, rfl, dv⟩)
      rw [List.set_set, List.set_set] at this
      exact this
    have lv : (σ.set x (some v)).length = n := by rw [List.length_set]; exact hl
    have gw : GoE (δi.set x .un) (δi.set x .un) (σ.set x none) Gi H' Gi H' := GoE.refl
    show wipe ((wipe σ [x]).set x (some v)) [x] = wipe σ [x] ∧ tt ((wipe σ [x]).set x (some v)) H' _
    rw [ew, List.set_set]
    refine ⟨by show (σ.set x (some v)).set x none = σ.set x none; rw [List.set_set], ?_⟩
    unfold lcL at el
    split at el
    · rename_i δ3 ec
      split at el
      · rename_i r δ4 er
        split at el
        · rename_i dd δ5 ef
          split at el
          · rename_i hz
            refine hc _ _ _ ec _ Gi H' _ lv Rv fun G3 H3 R3 g3 => ?_
            rw [if_pos rfl]
            refine he _ _ _ er _ G3 H3 _ lv R3 fun y G4 H4 R4 g4 rv => ?_
            obtain ⟨G5, R5, g5, dn5, _⟩ := frz_ok R3 g4 R4 rv ef
            have g35 := g3.trans g5
            have no : ¬ Own (δi.set x (.val d)) (σ.set x (some v)) p := fun z => GoE.un_own R1w gi hp (own_any li (s := .val d) (s' := .un) rfl rfl z)
            have hD5 := g35.go.keep p _ hD no (fun ps z => by cases z)
            have hG5 := g35.not_good hD hG no
            have l5 : x < δ5.length := by rw [← R5.len, List.length_set]; exact lx'
            have gh := GoE.hide li l5 (s := .val d) rfl g35
            have R5w : Rel Ω.K Ω.T (δ5.set x .un) (σ.set x none) G5 H4 := by
              have := R5.fill (x := x) (s := .un) (w := none) l5 rfl (fun d z => by cases z)
              rw [List.set_set] at this
              exact this
            have gt := gi.trans gh
            refine ⟨av, hD5, by rw [dn.length]; exact lt_big hz, ⟨_, ?_, by omega, rfl, δ5, acc ++ [dd], av ++ [y], G5, el, R5w.side hD5 hG5 (GoE.un_own R1w gt hp), gt.side hp, upd_same, hG5, (dn.mono g35.go.ex).append (.cons dn5 .nil)⟩⟩
            omega
          · cases el
        · cases el
      · cases el
    · rename_i δ3 ec
      refine hc _ _ _ ec _ Gi H' _ lv Rv fun G3 H3 R3 g3 => ?_
      rw [if_neg (by decide)]
      have no : ¬ Own (δi.set x (.val d)) (σ.set x (some v)) p := fun z => GoE.un_own R1w gi hp (own_any li (s := .val d) (s' := .un) rfl rfl z)
      have hD5 := g3.go.keep p _ hD no (fun ps z => by cases z)
      have hG5 := g3.not_good hD hG no
      have l5 : x < δ3.length := by rw [← R3.len, List.length_set]; exact lx'
      have gh := GoE.hide li l5 (s := .val d) rfl g3
      have R5w : Rel Ω.K Ω.T (δ3.set x .un) (σ.set x none) G3 H3 := by
        have := R3.fill (x := x) (s := .un) (w := none) l5 rfl (fun d z => by cases z)
        rw [List.set_set] at this
        exact this
      refine ⟨_, ?_, by omega, rfl, δ3, acc, av, G3, el, R5w, gi.trans gh, hD5, hG5, dn.mono g3.go.ex⟩
      omega
    · cases el
  · have hi2 : i = xs.length := by omega
    subst hi2
    rw [List.drop_length] at el
    unfold lcL at el
    cases el
    obtain ⟨R6, g6⟩ := show_ok R1 l1 li es ns Ri gi
    obtain ⟨R7, g7⟩ := unlock_ok g1 lko g6 R6
    exact .inl ⟨sr.st, post _ Gi Hc R7 g7 ⟨p, av, rfl, hD, hG, g1.go.back hp, dn⟩⟩
end
end Mn

-- Mn14
set_option Elab.async false
set_option linter.all false
set_option maxRecDepth 100000
set_option autoImplicit false
namespace Mn
open PySem PySem.Spec L2

/-! ### a display of a dict -/
section
variable {K : PySem.W.Frag} {G : Hp}
theorem DenK.any {k : Key} : ∀ {vs : List (Key × V)} {ds : List (Key × D)}, DenK K G vs ds → (vs.any fun kv => decide (kv.1 = k)) = (ds.any fun kv => decide (kv.1 = k))
  | _, _, .nil => rfl
  | _, _, .cons _ t => by
    rw [List.any_cons, List.any_cons, t.any]
theorem DenK.mapK {k : Key} {v : V} {d : D} (h : Den K G v d) : ∀ {vs : List (Key × V)} {ds : List (Key × D)}, DenK K G vs ds → DenK K G (vs.map fun kv => if kv.1 = k then (kv.1, v) else kv) (ds.map fun kv => if kv.1 = k then (kv.1, d) else kv)
  | _, _, .nil => .nil
  | _, _, .cons (k := k') q t => by
    rw [List.map_cons, List.map_cons]
    dsimp only
    by_cases c : k' = k
    · rw [if_pos c, if_pos c]
      exact .cons h (t.mapK h)
    · rw [if_neg c, if_neg c]
      exact .cons q (t.mapK h)
theorem DenK.app {k : Key} {v : V} {d : D} (h : Den K G v d) : ∀ {vs : List (Key × V)} {ds : List (Key × D)}, DenK K G vs ds → DenK K G (vs ++ [(k, v)]) (ds ++ [(k, d)])
  | _, _, .nil => .cons h .nil
  | _, _, .cons q t => .cons q (t.app h)
theorem DenK.put {k : Key} {v : V} {d : D} (h : Den K G v d) {vs : List (Key × V)} {ds : List (Key × D)} (t : DenK K G vs ds) : DenK K G (putK vs k v) (putD ds k d) := by
  unfold putK putD
  rw [t.any]
  split
  · exact t.mapK h
  · exact t.app h
theorem DenK.fold : ∀ {vs : List (Key × V)} {ds : List (Key × D)}, DenK K G vs ds → ∀ {as : List (Key × V)} {bs : List (Key × D)}, DenK K G as bs → DenK K G (mergeK as vs) (ds.foldl (fun acc kv => putD acc kv.1 kv.2) bs)
  | _, _, .nil, _, _, q => q
  | _, _, .cons h t, _, _, q => t.fold (q.put h)
theorem DenK.length : ∀ {vs : List (Key × V)} {ds : List (Key × D)}, DenK K G vs ds → vs.length = ds.length
  | _, _, .nil => rfl
  | _, _, .cons _ t => congrArg Nat.succ t.length
end
section
variable {Ω : Wd} {W : WX} {n : Nat} {δ δ1 δ2 δ3 δ4 : List Sl} {tk tv : TE} {rk rv : R}
def SPr (Ω : Wd) (trs : List (TE × TE)) (n : Nat) (δ : List Sl) (kvs : List (Key × D)) (δ' : List Sl) : Prop := ∀ (σ : L2.St) (G H : Hp) (Q : List (V × V) → Hp → Prop), σ.length = n → Rel Ω.K Ω.T δ σ G H →
  (∀ kv G' H', Rel Ω.K Ω.T δ' σ G' H' → GoE δ δ' σ G H G' H' → DenK Ω.K G' kv kvs → Q (kv.map fun kv => (kV kv.1, kv.2)) H') → tPairs trs σ H Q
theorem sp_nil : SPr Ω [] n δ [] δ := fun σ G H Q hl Rl post => post [] G H Rl GoE.refl .nil
theorem sp_cons {trs : List (TE × TE)} {kvs : List (Key × D)} {kd d : D} {k : Key} (h1 : SE Ω tk W n δ (.ok rk δ1)) (h2 : SE Ω tv W n δ1 (.ok rv δ2)) (ek : rk.see δ2 = some kd) (ek2 : keyD kd = some k) (ef : frz δ2 rv = some (d, δ3)) (h3 : SPr Ω trs n δ3 kvs δ4) :
    SPr Ω ((tk, tv) :: trs) n δ ((k, d) :: kvs) δ4 := fun σ G H Q hl Rl post => by
  refine se_two h1 h2 hl Rl fun x y G2 H2 R2 g2 rx ry => ?_
  obtain ⟨G3, R3, g3, dn, _⟩ := frz_ok Rl g2 R2 ry ef
  have sk := key_eq (rx.see R2 ek) ek2
  subst sk
  exact h3 σ G3 H2 _ hl R3 fun kv G4 H4 R4 g4 dk => post ((k, y) :: kv) G4 H4 R4 (g3.trans g4) (.cons (dn.mono g4.go.ex) dk)
theorem se_dis {trs : List (TE × TE)} {kvs : List (Key × D)} (h : SPr Ω trs n δ kvs δ1) (hl : kvs.length ≤ 15) : SE Ω (tDisp trs) W n δ (.ok (.val (.dct (kvs.foldl (fun acc kv => putD acc kv.1 kv.2) []))) δ1) := by
  intro σ G H Q hn Rl post p hp
  refine h σ G _ _ hn (Rl.laid hp) fun kv G1 H1 R1 g1 dk => ?_
  have g0 : GoE δ δ1 σ G H G1 H1 := (GoE.laid hp).trans g1
  have no1 : ¬ Own δ σ p := fun z => by
    obtain ⟨o, q⟩ := Rl.live z
    rw [hp] at q
    cases q
  have hD := g1.go.keep p _ upd_same no1 (fun ps z => by cases z)
  have hG := g1.not_good upd_same (Rl.gfree hp) no1
  have no2 := GoE.un_own Rl g0 hp
  have sG : Same G1 (upd G1 p (.dK (mergeK [] kv))) := same_new2 hG
  refine ⟨hD, kv, rfl, by rw [dk.length]; exact hl, ?_⟩
  have hsub : ∀ b o, upd G1 p (.dK (mergeK [] kv)) b = some o → b ≠ p → G1 b = some o := fun b o q hb => by
    rw [upd_ne hb] at q
    exact q
  have nl : ∀ b o, H1 b = some o → b ≠ p → upd H1 p (.dK (mergeK [] kv)) b = some o := fun b o q z => by
    rw [upd_ne z]
    exact q
  refine post _ (upd G1 p (.dK (mergeK [] kv))) _ ⟨R1.len, fun b o q => ?_, fun b ps q => ?_, ?_, fun j d q => ?_, fun j zs q => ?_, R1.sep⟩ ⟨⟨g0.go.ex.trans sG, (g0.side hp).go.keep, (g0.side hp).go.live, fun b o q => ?_, g0.go.grow⟩, g0.less, g0.lock, fun i x hx => (g0.fate i x hx).imp id fun ⟨o, z⟩ => ⟨o, sG _ _ z⟩⟩ (Den.dct upd_same ((dk.fold .nil).mono sG))
  · by_cases hb : b = p
    · rw [hb, upd_same] at q ⊢
      exact q
    · exact nl b o (R1.sub b o (hsub b o q hb)) hb
  · by_cases hb : b = p
    · rw [hb, upd_same] at q
      cases q
    · exact R1.ntb b ps (hsub b _ q hb)
  · intro t ht
    obtain ⟨ps, t1, t2, t3⟩ := R1.tab t ht
    have np : t.1 ≠ p := fun z => by
      rw [z, hD] at t1
      cases t1
    refine ⟨ps, nl _ _ t1 np, t2, fun pos cv q => ?_⟩
    obtain ⟨c, q1, q2⟩ := t3 pos cv q
    refine ⟨c, q1, nl _ _ q2 fun z => ?_⟩
    rw [z, hD] at q2
    cases q2
  · obtain ⟨v, y1, y2⟩ := R1.val j d q
    exact ⟨v, y1, y2.mono sG⟩
  · obtain ⟨c, us, y1, y2, y3, y4⟩ := R1.own j zs q
    have nc : c ≠ p := fun z => no2 ⟨j, ⟨zs, q⟩, by rw [← z]; exact y1⟩
    exact ⟨c, us, y1, nl _ _ y2 nc, by rw [upd_ne nc]; exact y3, y4.mono sG⟩
  · by_cases hb : b = p
    · rw [hb]
      exact .inr (.inl hp)
    · exact g0.go.new b o (hsub b o q hb)
theorem se_dis0 : SE Ω tDNewK W n δ (.ok (.val (.dct [])) δ) := fun σ G H Q hl Rl post p hp =>
  post _ _ _ (Rl.laidG hp (fun ps z => by cases z)) (GoE.laidG Rl hp) (Den.dct upd_same .nil)
end
end Mn

-- Mn14b
set_option Elab.async false
set_option linter.all false
set_option maxRecDepth 100000
set_option autoImplicit false
namespace Mn
open PySem PySem.Spec L2

/-! ### sorted sets of ints -/
theorem heap_with (D : Nat) (o : Obj) (ho : o.isFreed = false) : ∃ h : Heap, h.get? D = some o := by
  have mk : ∀ n : Nat, ∃ h : Heap, h.objs.size = n := by
    intro n
    induction n with
    | zero => exact ⟨{ objs := #[] }, rfl⟩
    | succ n ih =>
      obtain ⟨h, e⟩ := ih
      exact ⟨h.push o, by rw [Heap.size_push, e]⟩
  obtain ⟨h, e⟩ := mk D
  refine ⟨h.push o, ?_⟩
  rw [← e]
  exact Heap.get?_push_size _ ho
theorem setO_code {w : World} {a : Addr} {S : Int → Bool} {n : Nat} (q : Str) : SetO w a S n ≠ LamX.CodeO a q := fun z => by
  unfold SetO LamX.CodeO at z
  have z := HO.ext.inj z
  obtain ⟨h, e⟩ := heap_with a { cls := .none, data := .fields #[.none, .str q 0] } rfl
  have y := congrFun z h
  have : SetR w h a S n := by
    rw [y]
    exact ⟨_, _, 0, e, rfl, rfl⟩
  obtain ⟨o, es, ep, t, h1, _, h3, _⟩ := this
  rw [e] at h1
  cases h1
  cases h3
theorem setO_tbl {w : World} {a : Addr} {S : Int → Bool} {n : Nat} (ps : Array Value) : SetO w a S n ≠ .tbl ps := fun z => by
  unfold SetO at z
  cases z
/-- strictly ascending -/
abbrev Asc (l : List Int) : Prop := l.Pairwise (· < ·)
theorem insI_mem {x y : Int} : ∀ {l : List Int}, y ∈ insI x l ↔ y = x ∨ y ∈ l
  | [] => by simp [insI]
  | z :: l => by
    unfold insI
    split
    · simp
    · split
      · rename_i h
        subst h
        simp
      · simp only [List.mem_cons, insI_mem (l := l)]
        constructor
        · rintro (h | h | h)
          · exact .inr (.inl h)
          · exact .inl h
          · exact .inr (.inr h)
        · rintro (h | h | h)
          · exact .inr (.inl h)
          · exact .inl h
          · exact .inr (.inr h)
theorem insI_asc {x : Int} : ∀ {l : List Int}, Asc l → Asc (insI x l)
  | [], _ => by simp [insI, Asc]
  | z :: l, h => by
    obtain ⟨h1, h2⟩ := List.pairwise_cons.mp h
    unfold insI
    split
    · rename_i c
      refine List.pairwise_cons.mpr ⟨fun y hy => ?_, h⟩
      rcases List.mem_cons.mp hy with e | e
      · rw [e]; exact c
      · have := h1 y e; omega
    · split
      · exact h
      · rename_i c1 c2
        refine List.pairwise_cons.mpr ⟨fun y hy => ?_, insI_asc h2⟩
        rcases insI_mem.mp hy with e | e
        · rw [e]; omega
        · exact h1 y e
theorem srtI_gen : ∀ (xs acc : List Int), Asc acc → Asc (xs.foldl (fun acc x => insI x acc) acc) ∧ ∀ y, y ∈ xs.foldl (fun acc x => insI x acc) acc ↔ y ∈ xs ∨ y ∈ acc
  | [], acc, h => ⟨h, fun y => by simp⟩
  | x :: xs, acc, h => by
    obtain ⟨h1, h2⟩ := srtI_gen xs (insI x acc) (insI_asc h)
    refine ⟨h1, fun y => ?_⟩
    rw [List.foldl_cons, h2 y, insI_mem]
    simp only [List.mem_cons]
    constructor
    · rintro (h | h | h)
      · exact .inl (.inr h)
      · exact .inl (.inl h)
      · exact .inr h
    · rintro ((h | h) | h)
      · exact .inr (.inl h)
      · exact .inl h
      · exact .inr (.inr h)
theorem srtI_asc (xs : List Int) : Asc (srtI xs) := (srtI_gen xs [] List.Pairwise.nil).1
theorem srtI_mem (xs : List Int) (y : Int) : y ∈ srtI xs ↔ y ∈ xs := by
  have := (srtI_gen xs [] List.Pairwise.nil).2 y
  simpa [srtI] using this
theorem asc_eq : ∀ {a b : List Int}, Asc a → Asc b → (∀ y, y ∈ a ↔ y ∈ b) → a = b
  | [], [], _, _, _ => rfl
  | [], y :: b, _, _, h => by have := (h y).mpr List.mem_cons_self; simp at this
  | x :: a, [], _, _, h => by have := (h x).mp List.mem_cons_self; simp at this
  | x :: a, y :: b, h1, h2, h => by
    obtain ⟨p1, p2⟩ := List.pairwise_cons.mp h1
    obtain ⟨q1, q2⟩ := List.pairwise_cons.mp h2
    have exy : x = y := by
      rcases List.mem_cons.mp ((h x).mp List.mem_cons_self) with e | e
      · exact e
      · rcases List.mem_cons.mp ((h y).mpr List.mem_cons_self) with e' | e'
        · exact e'.symm
        · have a1 := q1 x e
          have a2 := p1 y e'
          omega
    subst exy
    rw [asc_eq p2 q2 fun z => ?_]
    constructor
    · intro hz
      rcases List.mem_cons.mp ((h z).mp (List.mem_cons_of_mem _ hz)) with e | e
      · have := p1 z hz
        omega
      · exact e
    · intro hz
      rcases List.mem_cons.mp ((h z).mpr (List.mem_cons_of_mem _ hz)) with e | e
      · have := q1 z hz
        omega
      · exact e
theorem asInts_app : ∀ {a b : List D} {ns : List Int}, asInts (a ++ b) = some ns → ∃ x y, asInts a = some x ∧ asInts b = some y ∧ ns = x ++ y
  | [], b, ns, e => ⟨[], ns, rfl, e, rfl⟩
  | d :: a, b, ns, e => by
    cases d <;> simp only [List.cons_append, asInts] at e <;> first | (cases e; done) | skip
    obtain ⟨ms, q1, q2⟩ := Option.map_eq_some_iff.mp e
    obtain ⟨x, y, h1, h2, h3⟩ := asInts_app q1
    rename_i i
    refine ⟨i :: x, y, by simp only [asInts, h1]; rfl, h2, ?_⟩
    rw [← q2, h3] <;> rfl
theorem asInts_len : ∀ {a : List D} {ns : List Int}, asInts a = some ns → ns.length = a.length
  | [], ns, e => by cases e; rfl
  | d :: a, ns, e => by
    cases d <;> simp only [asInts] at e <;> first | (cases e; done) | skip
    obtain ⟨ms, q1, q2⟩ := Option.map_eq_some_iff.mp e
    rw [← q2, List.length_cons, List.length_cons, asInts_len q1]
theorem lcL_pre {fe : List Sl → Option EO} {fc : List Sl → Option (Bool × List Sl)} {x : Nat} : ∀ {xs : List D} {δ : List Sl} {acc ys : List D} {δ' : List Sl}, lcL fe fc x xs δ acc = some (ys, δ') → ∃ zs, ys = acc ++ zs
  | [], δ, acc, ys, δ', e => by
    unfold lcL at e
    cases e
    exact ⟨[], by simp⟩
  | d :: xs, δ, acc, ys, δ', e => by
    unfold lcL at e
    split at e
    · split at e
      · split at e
        · split at e
          · obtain ⟨zs, h⟩ := lcL_pre e
            exact ⟨_ :: zs, by rw [h, List.append_assoc] <;> rfl⟩
          · cases e
        · cases e
      · cases e
    · exact lcL_pre e
    · cases e
section
variable {Ω : Wd} {W : WX} {n : Nat} {δ δ1 δ2 : List Sl} {wi : TI} {tt : TT} {te : TE} {xs ys : List D} {lk : Option (Nat × Sl)} {x : Nat} {s : Sl}
theorem ints_den {K : PySem.W.Frag} {G : Hp} : ∀ ns : List Int, DenL K G (ns.map V.int) (ns.map D.int)
  | [] => .nil
  | n :: ns => .cons (.int n) (ints_den ns)
theorem se_srt {fe : List Sl → Option EO} {fc : List Sl → Option (Bool × List Sl)} {ns : List Int} (hi : SI Ω wi n δ xs δ1 lk) (hc : ∀ δ b δ', fc δ = some (b, δ') → ST Ω tt n δ b δ') (he : ∀ δ r δ', fe δ = some (.ok r δ') → SE Ω te W0 n δ (.ok r δ'))
    (e : lcL fe fc x xs (δ1.set x .un) [] = some (ys, δ2)) (es : δ1[x]? = some s) (nl : ∀ zs, s ≠ .lock zs) (ei : asInts ys = some ns) (hl64 : ns.length < 64) :
    SE Ω (tCB (rSortedSet Ω.w) (tCons (tSK (kitI Ω.P Ω.w) wi (gName x) tt te [x]) tNil)) W n δ (.ok (.new ((srtI ns).map D.int)) (unlockS (δ2.set x s) lk)) := by
  intro σ G H Q hl Rl post
  refine hi σ G H _ hl Rl fun J G1 H1 R1 g1 lko src p hp => ?_
  have l1 : x < δ1.length := by
    rcases Nat.lt_or_ge x δ1.length with z | z
    · exact z
    · rw [List.getElem?_eq_none z] at es
      cases es
  have lx' : x < σ.length := by rw [R1.len]; exact l1
  have ew : wipe σ [x] = σ.set x none := rfl
  have R1w : Rel Ω.K Ω.T (δ1.set x .un) (σ.set x none) G1 H1 := R1.fill l1 rfl (fun d z => by cases z)
  refine ⟨fun i m Hc => i ≤ xs.length ∧ m = xs.length - i ∧ ∃ δi acc ms S c Gi, lcL fe fc x (xs.drop i) δi acc = some (ys, δ2) ∧ Rel Ω.K Ω.T (δi.set x .un) (σ.set x none) Gi Hc ∧ GoE (δ1.set x .un) (δi.set x .un) (σ.set x none) G1 H1 Gi Hc ∧
      Hc p = some (SetO Ω.w p S c) ∧ Gi p = none ∧ asInts acc = some ms ∧ (∀ k, S k = true ↔ k ∈ ms) ∧ c ≤ ms.length,
    ⟨_, Nat.zero_le _, rfl, δ1.set x .un, [], [], fun _ => false, 0, G1, e, by rw [List.set_set]; exact R1w.laid hp, by rw [List.set_set]; exact GoE.laid hp, upd_same, R1.gfree hp, rfl, fun k => by simp, Nat.le_refl _⟩, ?_⟩
  rintro i m Hc ⟨hi', hm, δi, acc, ms, S, c, Gi, el, Ri, gi, hD, hG, em, hS, hcm⟩
  have li : x < δi.length := by
    have := Ri.len
    rw [List.length_set, List.length_set] at this
    rw [← this]
    exact lx'
  have sr : Src Ω.K Gi Hc J xs := by
    refine src _ _ _ _ ⟨Ri, gi.go.ex, fun b o q no t => gi.go.keep b o q (fun ⟨j, z⟩ => no ⟨j, (own_hide l1 (s := .un) rfl z).2⟩) t, fun j zs q => ?_⟩
    have hj : j ≠ x := fun y => by
      subst y
      rw [es] at q
      exact nl zs (Option.some.inj q)
    exact ⟨gi.lock j zs (by rw [List.getElem?_set_ne (Ne.symm hj)]; exact q), List.getElem?_set_ne (Ne.symm hj)⟩
  by_cases hx : i < xs.length
  · refine .inr ⟨sr.go i hx, fun H' => ∃ m', m' < m ∧ _, fun H' z => z, fun v H' y => ?_⟩
    obtain ⟨eh, d, e1, dv⟩ := sr.yl i v H' y hx
    subst eh
    rw [List.drop_eq_getElem_cons hx] at el
    have ed : xs[i] = d := by
      rw [List.getElem?_eq_getElem hx] at e1
      exact Option.some.inj e1
    rw [ed] at el
    have Rv : Rel Ω.K Ω.T (δi.set x (.val d)) (σ.set x (some v)) Gi H' := by
      have := Ri.fill (x := x) (s := .val d) (w := some v) (by rw [List.length_set]; exact li) rfl (fun d' z => by cases z; exact ⟨v, rfl, dv⟩)
      rw [List.set_set, List.set_set] at this
      exact this
    have lv : (σ.set x (some v)).length = n := by rw [List.length_set]; exact hl
    show wipe ((wipe σ [x]).set x (some v)) [x] = wipe σ [x] ∧ tt ((wipe σ [x]).set x (some v)) H' _
    rw [ew, List.set_set]
    refine ⟨by show (σ.set x (some v)).set x none = σ.set x none; rw [List.set_set], ?_⟩
    unfold lcL at el
    split at el
    · rename_i δ3 ec
      split at el
      · rename_i r δ4 er
        split at el
        · rename_i dd δ5 ef
          split at el
          · rename_i hz
            obtain ⟨zs, ez⟩ := lcL_pre el
            obtain ⟨ms', _, em2, _, _⟩ := asInts_app (by rw [ez] at ei; exact ei)
            obtain ⟨ms0, ks, em0, ek, ems⟩ := asInts_app em2
            rw [em] at em0
            cases em0
            obtain ⟨cc, rfl, rfl⟩ : ∃ cc, dd = .int cc ∧ ks = [cc] := by
              cases dd <;> simp only [asInts] at ek <;> first | (cases ek; done) | skip
              cases ek
              exact ⟨_, rfl, rfl⟩
            refine hc _ _ _ ec _ Gi H' _ lv Rv fun G3 H3 R3 g3 => ?_
            rw [if_pos rfl]
            refine he _ _ _ er _ G3 H3 _ lv R3 fun y G4 H4 R4 g4 rv => ?_
            obtain ⟨G5, R5, g5, dn5, _⟩ := frz_ok R3 g4 R4 rv ef
            have g35 := g3.trans g5
            have no : ¬ Own (δi.set x (.val d)) (σ.set x (some v)) p := fun z => GoE.un_own R1w gi hp (own_any li (s := .val d) (s' := .un) rfl rfl z)
            have hD5 := g35.go.keep p _ hD no setO_tbl
            have hG5 := g35.not_good hD hG no
            have l5 : x < δ5.length := by rw [← R5.len, List.length_set]; exact lx'
            have gh := GoE.hide li l5 (s := .val d) rfl g35
            have R5w : Rel Ω.K Ω.T (δ5.set x .un) (σ.set x none) G5 H4 := by
              have := R5.fill (x := x) (s := .un) (w := none) l5 rfl (fun d z => by cases z)
              rw [List.set_set] at this
              exact this
            have gt := gi.trans gh
            cases dn5
            have lm : ms.length = acc.length := asInts_len em
            have la : ms'.length ≤ ns.length := by
              have h1 := asInts_len ei
              have h2 := asInts_len em2
              rw [ez, List.length_append] at h1
              omega
            have lms : ms.length + 1 ≤ ns.length := by
              rw [ems, List.length_append] at la
              exact la
            refine ⟨(S, c), _, hD5, ⟨cc, rfl, by show c + 1 < 4096; omega, rfl⟩, ⟨_, ?_, by omega, rfl, δ5, acc ++ [.int cc], ms ++ [cc], _, _, G5, el, R5w.sideO hD5 setO_tbl (fun q => setO_code q) hG5 (GoE.un_own R1w gt hp), gt.side hp, upd_same, hG5, by rw [em2, ems], fun k => ?_, ?_⟩⟩
            · omega
            · simp only [Bool.or_eq_true, decide_eq_true_eq, List.mem_append, List.mem_singleton, hS k]
            · rw [List.length_append]
              show (if S cc = true then c else c + 1) ≤ ms.length + 1
              split <;> omega
          · cases el
        · cases el
      · cases el
    · rename_i δ3 ec
      refine hc _ _ _ ec _ Gi H' _ lv Rv fun G3 H3 R3 g3 => ?_
      rw [if_neg (by decide)]
      have no : ¬ Own (δi.set x (.val d)) (σ.set x (some v)) p := fun z => GoE.un_own R1w gi hp (own_any li (s := .val d) (s' := .un) rfl rfl z)
      have hD5 := g3.go.keep p _ hD no setO_tbl
      have hG5 := g3.not_good hD hG no
      have l5 : x < δ3.length := by rw [← R3.len, List.length_set]; exact lx'
      have gh := GoE.hide li l5 (s := .val d) rfl g3
      have R5w : Rel Ω.K Ω.T (δ3.set x .un) (σ.set x none) G3 H3 := by
        have := R3.fill (x := x) (s := .un) (w := none) l5 rfl (fun d z => by cases z)
        rw [List.set_set] at this
        exact this
      refine ⟨_, ?_, by omega, rfl, δ3, acc, ms, S, c, G3, el, R5w, gi.trans gh, hD5, hG5, em, hS, hcm⟩
      omega
    · cases el
  · have hi2 : i = xs.length := by omega
    subst hi2
    rw [List.drop_length] at el
    unfold lcL at el
    cases el
    rw [em] at ei
    obtain rfl := Option.some.inj ei
    obtain ⟨R6, g6⟩ := show_ok R1 l1 li es nl Ri gi
    obtain ⟨R7, g7⟩ := unlock_ok g1 lko g6 R6
    refine .inl ⟨sr.st, ⟨p, S, c, rfl, hD, by omega, fun ks q h1 h2 h3 h4 => ?_⟩⟩
    have eks : ks = srtI _ := asc_eq h1 (srtI_asc _) fun y => by rw [h2 y, hS y, srtI_mem]
    subst eks
    exact post _ Gi _ (R7.laid h4) (g7.trans (GoE.laid h4)) ⟨q, _, rfl, upd_same, R7.gfree h4, g7.go.back h4, ints_den _⟩
theorem se_srs {r : R} {ds : List D} {ns : List Int} (h : SE Ω te W n δ (.ok r δ1)) (es : r.see δ1 = some (.lst ds)) (ei : asInts ds = some ns) (hl64 : ns.length < 64) :
    SE Ω (tCB (rSortedSet Ω.w) (tCons (tCB (rSetOfI Ω.w Ω.K) (tCons te tNil)) tNil)) W n δ (.ok (.new ((srtI ns).map D.int)) δ1) := by
  intro σ G H Q hl Rl post
  refine h σ G H _ hl Rl fun v G1 H1 R1 g1 rv => ?_
  obtain ⟨a, vs, rfl, h1, h2⟩ := (rv.see R1 es).seqL R1.sub
  obtain rfl := h2.ints_eq ei
  refine ⟨a, ns, rfl, h1, by omega, fun p c hp hc => ⟨p, _, c, rfl, upd_same, by omega, fun ks q k1 k2 k3 k4 => ?_⟩⟩
  have eks : ks = srtI ns := asc_eq k1 (srtI_asc ns) fun y => by rw [k2 y, srtI_mem]; simp
  subst eks
  have R2 : Rel Ω.K Ω.T δ1 σ G1 _ := R1.laid (o := SetO Ω.w p (fun j => decide (j ∈ ns)) c) hp
  exact post _ G1 _ (R2.laid k4) ((g1.trans (GoE.laid hp)).trans (GoE.laid k4)) ⟨q, _, rfl, upd_same, R2.gfree k4, g1.go.back ((GoE.laid (δ := δ1) (σ := σ) (G := G1) (o := SetO Ω.w p (fun j => decide (j ∈ ns)) c) hp).go.back k4), ints_den _⟩
end
end Mn

-- Mn15
set_option Elab.async false
set_option linter.all false
set_option maxRecDepth 100000
set_option maxHeartbeats 1000000
set_option autoImplicit false
namespace Mn
open PySem PySem.Spec L2

/-! ## what the evaluator says of an expression, the reading asks -/
structure EvOk (Ω : Wd) (cf : Nat → List Sl → Option CO) (tf : EO → Option EO) (gd : List D) (fsp : Nat → Sp) (tsp : (XK → TE) → TE) (n : Nat) : Prop where
  fn : ∀ f, fsp f = SpF Ω (cf f)
  gl : ∀ (g : Nat) (d : D), gd[g]? = some d → ∀ G, Den Ω.K G (Ω.gv g) d
  td : ∀ (t : XK → TE) (W : WX) (δ : List Sl) (o o' : EO), (∀ E : XK, SE Ω (t E) (fun c d _ H => E c d H) n δ o) → tf o = some o' → SE Ω (tsp t) W n δ o'

section
variable {Ω : Wd} {W : WX} {n : Nat} {δ δ1 δ2 : List Sl}
theorem PostE.from {σ : L2.St} {G H G1 H1 : Hp} {Q : VK} {o : EO} (post : PostE Ω W σ δ G H Q o) (g1 : GoE δ δ1 σ G H G1 H1) : PostE Ω W σ δ1 G1 H1 Q o := by
  cases o with
  | ok r δ' => exact fun v G2 H2 R2 g2 rv => post v G2 H2 R2 (g1.trans g2) (rv.back g1)
  | exc c d δ' => exact fun v x G2 H2 R2 g2 hx dn => post v x G2 H2 R2 (g1.trans g2) hx dn
theorem tys_read {K : PySem.W.Frag} {σ : L2.St} {H : Hp} : ∀ (ts : List String) (Q : List V → Hp → Prop), Q (ts.map V.ty) H → tTys ts σ H Q
  | [], Q, q => q
  | t :: ts, Q, q => by
    show tTys ts σ H fun xs H2 => Q (V.ty t :: xs) H2
    exact tys_read (K := K) ts _ q
theorem See.laid {K : PySem.W.Frag} {G H : Hp} {v : V} {d : D} {p : Addr} {o : HO} (h : See K G H v d) (hp : H p = none) : See K G (upd H p o) v d := by
  rcases h with h | ⟨a, vs, xs, rfl, rfl, h1, h2⟩
  · exact .inl h
  · exact .inr ⟨a, vs, xs, rfl, rfl, same_new2 hp _ _ h1, h2⟩
theorem tys_cls : ∀ ts : List String, Paired ClsV (ts.map V.ty) (ts.map Value.type)
  | [] => .nil
  | t :: ts => .cons (.ty t) (tys_cls ts)
end

section
variable {Ω : Wd} {cf : Nat → List Sl → Option CO} {tf : EO → Option EO} {gd : List D} {fsp : Nat → Sp} {tsp : (XK → TE) → TE} {n : Nat}
theorem es_one (e : E) (es : Es) (h : ∀ x xs, es ≠ .cons x xs) : es = .nil := by
  cases es with
  | nil => rfl
  | cons x xs => exact absurd rfl (h x xs)
theorem ev_one {es : Es} {δ δ' : List Sl} {r : R} (e : evEs cf tf gd es δ = some (.ok [r] δ')) : ∃ a, es = .cons a .nil ∧ evE cf tf gd a δ = some (.ok r δ') := by
  cases es with
  | nil => simp only [evEs] at e; cases e
  | cons a es =>
    simp only [evEs] at e
    split at e
    · rename_i r1 δ1 ea
      split at e
      · rename_i rs δ2 eb
        cases e
        cases es with
        | nil => simp only [evEs] at eb; cases eb; exact ⟨a, rfl, ea⟩
        | cons b es =>
          simp only [evEs] at eb
          split at eb <;> first | (cases eb; done) | skip
          split at eb <;> cases eb
      · cases e
      · cases e
    · cases e
    · cases e
theorem ev_two {es : Es} {δ δ' : List Sl} {r r' : R} (e : evEs cf tf gd es δ = some (.ok [r, r'] δ')) : ∃ a b δ1, es = .cons a (.cons b .nil) ∧ evE cf tf gd a δ = some (.ok r δ1) ∧ evE cf tf gd b δ1 = some (.ok r' δ') := by
  cases es with
  | nil => simp only [evEs] at e; cases e
  | cons a es =>
    simp only [evEs] at e
    split at e
    · rename_i r1 δ1 ea
      split at e
      · rename_i rs δ2 eb
        cases e
        obtain ⟨b, rfl, h⟩ := ev_one eb
        exact ⟨a, b, δ1, rfl, ea, h⟩
      · cases e
      · cases e
    · cases e
    · cases e
mutual
theorem seE (ok : EvOk Ω cf tf gd fsp tsp n) : ∀ (e : E) (W : WX) (δ : List Sl) (o : EO), evE cf tf gd e δ = some o → SE Ω (rd Ω.P Ω.w Ω.K Ω.gv fsp tsp e W).1 W n δ o
  | .var i p, W, δ, o, e => by
    simp only [evE] at e
    simp only [rd]
    split at e
    · rename_i d q
      cases e
      intro σ G H Q hl Rl post
      obtain ⟨v, h1, h2⟩ := Rl.val i _ q
      exact ⟨v, h1, post v G H Rl GoE.refl h2⟩
    · rename_i xs q
      cases e
      intro σ G H Q hl Rl post
      obtain ⟨a, vs, h1, _⟩ := Rl.own i xs (.inl q)
      exact ⟨_, h1, post _ G H Rl GoE.refl h1⟩
    · rename_i xs q
      cases e
      intro σ G H Q hl Rl post
      obtain ⟨a, vs, h1, _⟩ := Rl.own i xs (.inr q)
      exact ⟨_, h1, post _ G H Rl GoE.refl h1⟩
    · cases e
  | .con c k p, W, δ, o, e => by
    simp only [evE] at e
    simp only [rd]
    split at e <;> first | (cases e; done) | skip
    · cases e; exact fun σ G H Q hl Rl post => post _ G H Rl GoE.refl (.int _)
    · cases e; exact fun σ G H Q hl Rl post => post _ G H Rl GoE.refl (.str _)
    · cases e; exact fun σ G H Q hl Rl post => post _ G H Rl GoE.refl (.bl _)
    · cases e; exact fun σ G H Q hl Rl post => post _ G H Rl GoE.refl .non
  | .glo g p, W, δ, o, e => by
    simp only [evE] at e
    simp only [rd]
    split at e
    · rename_i d q
      cases e
      exact fun σ G H Q hl Rl post => post _ G H Rl GoE.refl (ok.gl g d q G)
    · cases e
  | .bin op a b p, W, δ, o, e => by
    simp only [evE] at e
    simp only [rd]
    split at e
    · rename_i ra δ1 ea
      split at e
      · rename_i rb δ2 eb
        split at e
        · rename_i x y sx sy
          split at e
          · rename_i r er
            cases e
            exact se_op (seE ok a W _ _ ea) (seE ok b W _ _ eb) sx sy fun σ G H x y Q R hx hy nx => bin_ok R hx hy er nx
          · cases e
        · cases e
      · cases e
    · cases e
  | .neg a p, W, δ, o, e => by
    simp only [evE] at e
    simp only [rd]
    split at e
    · rename_i ra δ1 ea
      split at e
      · rename_i i sx
        cases e
        exact se_un (seE ok a W _ _ ea) sx fun σ G H x Q R hx nx => ⟨i, hx.int, nx _ G H R GoE.refl (.int _)⟩
      · cases e
    · cases e
  | .nt a p, W, δ, o, e => by
    simp only [evE] at e
    simp only [rd]
    split at e
    · rename_i ra δ1 ea
      split at e
      · rename_i b sx
        cases e
        exact fun σ G H Q hl Rl post => seE ok a W _ _ ea σ G H _ hl Rl fun v G1 H1 R1 g1 rv => ⟨b, (rv.see R1 sx).bl, post _ G1 H1 R1 g1 (.bl _)⟩
      · cases e
    · cases e
  | .bop op es p, W, δ, o, e => by
    simp only [evE] at e
    simp only [rd]
    exact seB ok op es W δ o e
  | .cmp op a b p, W, δ, o, e => by
    simp only [evE] at e
    simp only [rd]
    split at e
    · rename_i ra δ1 ea
      split at e
      · rename_i rb δ2 eb
        split at e
        · rename_i x y sx sy
          split at e
          · rename_i r er
            cases e
            exact se_op (seE ok a W _ _ ea) (seE ok b W _ _ eb) sx sy fun σ G H x y Q R hx hy nx => cmp_ok R hx hy er (nx _ G H R GoE.refl (.bl _))
          · cases e
        · cases e
      · cases e
    · cases e
  | .ife c a b p, W, δ, o, e => by
    simp only [evE] at e
    simp only [rd]
    split at e
    · rename_i nf
      split at e
      · rename_i rc δ1 ec
        split at e
        · rename_i sc
          exact fun σ G H Q hl Rl post => stE ok c W _ _ _ nf ec true sc σ G H _ hl Rl fun G1 H1 R1 g1 => by
            rw [if_pos rfl]
            exact seE ok a W _ _ e σ G1 H1 Q hl R1 (post.from g1)
        · rename_i sc
          exact fun σ G H Q hl Rl post => stE ok c W _ _ _ nf ec false sc σ G H _ hl Rl fun G1 H1 R1 g1 => by
            rw [if_neg (by decide)]
            exact seE ok b W _ _ e σ G1 H1 Q hl R1 (post.from g1)
        · cases e
      · cases e
    · cases e
  | .lst es p, W, δ, o, e => by
    simp only [evE] at e
    simp only [rd]
    split at e
    · rename_i rs δ1 ea
      split at e
      · rename_i ds δ2 ef
        split at e
        · rename_i hz
          cases e
          exact se_lst (seA ok es W _ _ ea) ef hz
        · cases e
      · cases e
    · rename_i c d δ1 ea
      cases e
      exact fun σ G H Q hl Rl post => seA ok es W _ _ ea σ G H _ hl Rl post
    · cases e
  | .tup es k p, W, δ, o, e => by
    simp only [evE] at e
    simp only [rd]
    split at e
    · rename_i rs δ1 ea
      split at e
      · rename_i ds δ2 ef
        split at e
        · rename_i hz
          cases e
          exact se_tup (seA ok es W _ _ ea) ef hz
        · cases e
      · cases e
    · rename_i c d δ1 ea
      cases e
      exact fun σ G H Q hl Rl post => seA ok es W _ _ ea σ G H _ hl Rl post
    · cases e
  | .dis .nil p, W, δ, o, e => by
    simp only [evE, evP] at e
    simp only [rd]
    cases e
    exact se_dis0
  | .dis (.cons k v ps) p, W, δ, o, e => by
    rw [evE] at e
    simp only [rd]
    split at e
    · rename_i kvs δ1 ep
      split at e
      · rename_i hz
        cases e
        have := seP ok (.cons k v ps) W _ _ _ ep
        simp only [rdP] at this
        exact se_dis this hz
      · cases e
    · cases e
  | .idx a b p, W, δ, o, e => by
    simp only [evE] at e
    simp only [rd]
    split at e
    · rename_i ra δ1 ea
      split at e
      · rename_i rb δ2 eb
        split at e
        · rename_i x y sx sy
          split at e
          · rename_i r er
            cases e
            exact se_op (seE ok a W _ _ ea) (seE ok b W _ _ eb) sx sy fun σ G H x y Q R hx hy nx => ix_ok R hx hy er fun v dn => nx v G H R GoE.refl dn
          · cases e
        · cases e
      · cases e
    · cases e
  | .sli a lo hi q p, W, δ, o, e => by
    simp only [evE] at e
    simp only [rd]
    split at e
    · rename_i ra δ1 ea
      split at e
      · rename_i l δ2 el
        split at e
        · rename_i h δ3 eh
          split at e
          · rename_i x sx
            split at e
            · rename_i r er
              cases e
              refine fun σ G H Q hl Rl post => seE ok a W _ _ ea σ G H _ hl Rl fun v G1 H1 R1 g1 rv => ?_
              refine seO ok lo W _ _ _ el σ G1 H1 _ hl R1 fun G2 H2 R2 g2 => ?_
              refine seO ok hi W _ _ _ eh σ G2 H2 _ hl R2 fun G3 H3 R3 g3 => ?_
              have g13 := g2.trans g3
              exact sl_ok R3 ((rv.stay Rl g1 g13).see R3 sx) er fun u G4 H4 R4 g4 ru => post u G4 H4 R4 ((g1.trans g13).trans g4) (ru.back (g1.trans g13))
            · cases e
          · cases e
        · cases e
      · cases e
    · cases e
  | .rev a k p1 p2 q p, W, δ, o, e => by
    simp only [evE] at e
    simp only [rd]
    split at e
    · rename_i ra δ1 ea
      split at e
      · rename_i xs sx
        cases e
        refine fun σ G H Q hl Rl post => seE ok a W _ _ ea σ G H _ hl Rl fun v G1 H1 R1 g1 rv => ?_
        obtain ⟨b, vs, rfl, h1, h2⟩ := (rv.see R1 sx).seqL R1.sub
        exact ⟨b, vs, rfl, h1, fun p hp => post _ G1 _ (R1.laid hp) (g1.trans (GoE.laid hp)) ⟨p, _, rfl, upd_same, R1.gfree hp, g1.go.back hp, h2.reverse⟩⟩
      · cases e
    · cases e
  | .call f q es p, W, δ, o, e => by
    simp only [evE] at e
    simp only [rd]
    rw [ok.fn f]
    split at e
    · rename_i rs δ1 ea
      exact se_call (seA ok es W _ _ ea) e
    · rename_i c d δ1 ea
      cases e
      exact fun σ G H Q hl Rl post => seA ok es W _ _ ea σ G H _ hl Rl post
    · cases e
  | .callk f q ks es p, W, δ, o, e => by
    simp only [evE] at e
    simp only [rd]
    rw [ok.fn f]
    split at e
    · rename_i rs δ1 ea
      exact se_call (seA ok es W _ _ ea) e
    · cases e
  | .bi b q es p, W, δ, o, e => by
    simp only [evE] at e
    simp only [rd]
    split at e
    · rename_i rs δ1 ea
      split at e
      · rename_i ds es'
        split at e
        · rename_i r er
          cases e
          exact fun σ G H Q hl Rl post => seA ok es W _ _ ea σ G H _ hl Rl fun vs G1 H1 R1 g1 rvs => bi_ok R1 (sees_ok R1 rvs es') er fun u G4 H4 R4 g4 ru => post u G4 H4 R4 (g1.trans g4) (ru.back g1)
        · cases e
      · cases e
    · cases e
  | .isi a t tp q p, W, δ, o, e => by
    simp only [evE] at e
    simp only [rd]
    split at e
    · rename_i ra δ1 ea
      split at e
      · rename_i b eb
        cases e
        obtain ⟨d, e1, e2⟩ := Option.bind_eq_some_iff.mp eb
        exact fun σ G H Q hl Rl post => seE ok a W _ _ ea σ G H _ hl Rl fun v G1 H1 R1 g1 rv => isi_ok R1.sub (rv.see R1 e1) e2 (post _ G1 H1 R1 g1 (.bl _))
      · cases e
    · cases e
  | .isiT a ts k tp q p, W, δ, o, e => by
    simp only [evE] at e
    simp only [rd]
    split at e
    · rename_i hts
      obtain ⟨hts, hn⟩ := hts
      split at e
      · rename_i ra δ1 ea
        split at e
        · rename_i b eb
          cases e
          obtain ⟨d, e1, e2⟩ := Option.bind_eq_some_iff.mp eb
          refine fun σ G H Q hl Rl post => seE ok a W _ _ ea σ G H _ hl Rl fun v G1 H1 R1 g1 rv => ?_
          refine tys_read (K := Ω.K) (ts.map (·.1)) _ ?_
          refine ⟨by rw [List.length_map, List.length_map]; exact le_big hts, fun p hp => ?_⟩
          have R2 : Rel Ω.K Ω.T δ1 σ G1 (upd H1 p (.tup ((ts.map (·.1)).map V.ty))) := R1.laid hp
          obtain ⟨m, q1, q2⟩ := isis_ok R2.sub (rv.see R1 e1 |>.laid hp) e2 (by cases ts with | nil => exact absurd rfl hn | cons t ts => simp)
          exact ⟨v, p, _, _, _, b, rfl, upd_same, tys_cls _, ty_ok R2.sub (rv.see R1 e1 |>.laid hp) q1, q2, post _ G1 _ R2 (g1.trans (GoE.laid hp)) (.bl _)⟩
        · cases e
      · cases e
    · cases e
  | .me m o' q es p, W, δ, o, e => by
    simp only [evE] at e
    simp only [rd]
    split at e
    · rename_i ro δ1 eo
      split at e
      · rename_i hr
        split at e
        · rename_i rs δ2 ea
          have ho := seE ok o' W _ _ eo
          unfold meD at e
          split at e
          · obtain ⟨a, rfl, ea'⟩ := ev_one ea
            simp only [rdL, rdMe]
            exact se_append ho hr (seE ok a W _ _ ea') e
          · obtain ⟨a, b, δ3, rfl, ea', eb'⟩ := ev_two ea
            simp only [rdL, rdMe]
            exact se_insert ho hr (seE ok a W _ _ ea') (seE ok b W _ _ eb') e
          · obtain ⟨a, b, δ3, rfl, ea', eb'⟩ := ev_two ea
            simp only [rdL, rdMe]
            exact se_get (rc := .val .non) (tc := noE) (δ4 := []) ho hr (seE ok a W _ _ ea') (seE ok b W _ _ eb') e
          · cases e
        · cases e
      · cases e
    · cases e
  | .lc elt x xp it c sc p, W, δ, o, e => by
    simp only [evE] at e
    simp only [rd]
    split at e
    · rename_i xs δ1 lk ei
      split at e
      · rename_i ys δ2 el
        split at e
        · cases e
        · rename_i s ns es
          cases e
          exact se_lc (seI ok it W0 _ _ _ _ ei) (fun δ b δ' ec => seC ok c W0 _ _ _ ec) (fun δ r δ' ee => seE ok elt W0 _ _ ee) el es (fun zs z => ns zs (by rw [← z]))
        · cases e
      · cases e
    · cases e
  | .srt q elt x xp it c sc p1 p, W, δ, o, e => by
    simp only [evE] at e
    simp only [rd]
    split at e
    · rename_i xs δ1 lk ei
      split at e
      · rename_i ys δ2 el
        split at e
        · cases e
        · rename_i s ns en es ei'
          split at e
          · rename_i hz
            cases e
            exact se_srt (seI ok it W0 _ _ _ _ ei) (fun δ b δ' ec => seC ok c W0 _ _ _ ec) (fun δ r δ' ee => seE ok elt W0 _ _ ee) el es (fun zs z => en zs (by rw [← z])) ei' hz
          · cases e
        · cases e
      · cases e
    · cases e
  | .srs q1 q2 a p1 p, W, δ, o, e => by
    simp only [evE] at e
    simp only [rd]
    split at e
    · rename_i r δ1 ea
      split at e
      · rename_i xs sx
        split at e
        · rename_i ns ei
          split at e
          · rename_i hz
            cases e
            exact se_srs (seE ok a W _ _ ea) sx ei hz
          · cases e
        · cases e
      · cases e
    · cases e
  | .told f q body ar sc lp p, W, δ, o, e => by
    simp only [evE] at e
    simp only [rd]
    split at e
    · rename_i o1 eo
      exact ok.td _ W δ o1 o (fun E => seE ok body _ _ _ eo) e
    · cases e
termination_by e => (sizeOf e, 0)
theorem stE (ok : EvOk Ω cf tf gd fsp tsp n) : ∀ (e : E) (W : WX) (δ : List Sl) (r : R) (δ1 : List Sl), nIf e = true → evE cf tf gd e δ = some (.ok r δ1) → ∀ b, (r.see δ1).bind truD = some b → ST Ω (rd Ω.P Ω.w Ω.K Ω.gv fsp tsp e W).2 n δ b δ1
  | .var i p, W, δ, r, δ1, nf, e, b, s => by have z := seE ok (.var i p) W _ _ e; simp only [rd] at z ⊢; exact st_of z s
  | .con c k p, W, δ, r, δ1, nf, e, b, s => by have z := seE ok (.con c k p) W _ _ e; simp only [rd] at z ⊢; exact st_of z s
  | .glo g p, W, δ, r, δ1, nf, e, b, s => by have z := seE ok (.glo g p) W _ _ e; simp only [rd] at z ⊢; exact st_of z s
  | .bin op x y p, W, δ, r, δ1, nf, e, b, s => by have z := seE ok (.bin op x y p) W _ _ e; simp only [rd] at z ⊢; exact st_of z s
  | .neg x p, W, δ, r, δ1, nf, e, b, s => by have z := seE ok (.neg x p) W _ _ e; simp only [rd] at z ⊢; exact st_of z s
  | .nt x p, W, δ, r, δ1, nf, e, b, s => by
    simp only [evE] at e
    simp only [rd]
    split at e
    · rename_i ra δ2 ea
      split at e
      · rename_i c sx
        cases e
        have hb : b = !c := by simpa [R.see, truD] using s.symm
        subst hb
        have sc : (ra.see δ1).bind truD = some c := by rw [sx]; rfl
        exact fun σ G H Q hl Rl post => stE ok x W _ _ _ (by simpa [nIf] using nf) ea c sc σ G H _ hl Rl post
      · cases e
    · cases e
  | .bop op es p, W, δ, r, δ1, nf, e, b, s => by
    simp only [evE] at e
    simp only [rd]
    exact stB ok op es W δ r δ1 (by simpa [nIf] using nf) e b s
  | .cmp op x y p, W, δ, r, δ1, nf, e, b, s => by have z := seE ok (.cmp op x y p) W _ _ e; simp only [rd] at z ⊢; exact st_of' z s
  | .ife c x y p, W, δ, r, δ1, nf, e, b, s => by simp [nIf] at nf
  | .lst es p, W, δ, r, δ1, nf, e, b, s => by have z := seE ok (.lst es p) W _ _ e; simp only [rd] at z ⊢; exact st_of z s
  | .tup es k p, W, δ, r, δ1, nf, e, b, s => by have z := seE ok (.tup es k p) W _ _ e; simp only [rd] at z ⊢; exact st_of z s
  | .dis .nil p, W, δ, r, δ1, nf, e, b, s => by have z := seE ok (.dis .nil p) W _ _ e; simp only [rd] at z ⊢; exact st_of z s
  | .dis (.cons k v ps) p, W, δ, r, δ1, nf, e, b, s => by have z := seE ok (.dis (.cons k v ps) p) W _ _ e; simp only [rd] at z ⊢; exact st_of z s
  | .idx x y p, W, δ, r, δ1, nf, e, b, s => by have z := seE ok (.idx x y p) W _ _ e; simp only [rd] at z ⊢; exact st_of z s
  | .sli x lo hi q p, W, δ, r, δ1, nf, e, b, s => by have z := seE ok (.sli x lo hi q p) W _ _ e; simp only [rd] at z ⊢; exact st_of z s
  | .rev x k p1 p2 q p, W, δ, r, δ1, nf, e, b, s => by have z := seE ok (.rev x k p1 p2 q p) W _ _ e; simp only [rd] at z ⊢; exact st_of z s
  | .call f q es p, W, δ, r, δ1, nf, e, b, s => by have z := seE ok (.call f q es p) W _ _ e; simp only [rd] at z ⊢; exact st_of z s
  | .callk f q ks es p, W, δ, r, δ1, nf, e, b, s => by have z := seE ok (.callk f q ks es p) W _ _ e; simp only [rd] at z ⊢; exact st_of z s
  | .bi i q es p, W, δ, r, δ1, nf, e, b, s => by have z := seE ok (.bi i q es p) W _ _ e; simp only [rd] at z ⊢; exact st_of z s
  | .isi x t tp q p, W, δ, r, δ1, nf, e, b, s => by have z := seE ok (.isi x t tp q p) W _ _ e; simp only [rd] at z ⊢; exact st_of z s
  | .isiT x ts k tp q p, W, δ, r, δ1, nf, e, b, s => by have z := seE ok (.isiT x ts k tp q p) W _ _ e; simp only [rd] at z ⊢; exact st_of z s
  | .me m x q es p, W, δ, r, δ1, nf, e, b, s => by have z := seE ok (.me m x q es p) W _ _ e; simp only [rd] at z ⊢; exact st_of z s
  | .lc elt x xp it c sc p, W, δ, r, δ1, nf, e, b, s => by have z := seE ok (.lc elt x xp it c sc p) W _ _ e; simp only [rd] at z ⊢; exact st_of z s
  | .srt q elt x xp it c sc p1 p, W, δ, r, δ1, nf, e, b, s => by have z := seE ok (.srt q elt x xp it c sc p1 p) W _ _ e; simp only [rd] at z ⊢; exact st_of z s
  | .srs q1 q2 x p1 p, W, δ, r, δ1, nf, e, b, s => by have z := seE ok (.srs q1 q2 x p1 p) W _ _ e; simp only [rd] at z ⊢; exact st_of z s
  | .told f q x ar sc lp p, W, δ, r, δ1, nf, e, b, s => by have z := seE ok (.told f q x ar sc lp p) W _ _ e; simp only [rd] at z ⊢; exact st_of z s
termination_by e => (sizeOf e, 1)
theorem seA (ok : EvOk Ω cf tf gd fsp tsp n) : ∀ (es : Es) (W : WX) (δ : List Sl) (o : EA), evEs cf tf gd es δ = some o → SA Ω (rdA Ω.P Ω.w Ω.K Ω.gv fsp tsp es W) W n δ o
  | .nil, W, δ, o, e => by
    simp only [evEs] at e
    cases e
    simp only [rdA]
    exact sa_nil
  | .cons x es, W, δ, o, e => by
    simp only [evEs] at e
    simp only [rdA]
    split at e
    · rename_i r δ1 ex
      split at e
      · rename_i rs δ2 ea
        cases e
        exact sa_cons (seE ok x W _ _ ex) (seA ok es W _ _ ea)
      · rename_i c d δ2 ea
        cases e
        exact sa_exc2 (seE ok x W _ _ ex) (seA ok es W _ _ ea)
      · cases e
    · rename_i c d δ1 ex
      cases e
      exact sa_exc1 (seE ok x W _ _ ex)
    · cases e
termination_by es => (sizeOf es, 0)
theorem seB (ok : EvOk Ω cf tf gd fsp tsp n) (op : BoolOp) : ∀ (es : Es) (W : WX) (δ : List Sl) (o : EO), evB cf tf gd op es δ = some o → SE Ω (rdB Ω.P Ω.w Ω.K Ω.gv fsp tsp op es W).1 W n δ o
  | .nil, W, δ, o, e => by simp only [evB] at e; cases e
  | .cons x .nil, W, δ, o, e => by
    simp only [evB] at e
    simp only [rdB]
    exact seE ok x W _ _ e
  | .cons x (.cons y es), W, δ, o, e => by
    rw [evB] at e
    · split at e
      · rename_i r δ1 ex
        have hx := seE ok x W _ _ ex
        split at e
        · rename_i b sx
          cases op with
          | And =>
            simp only [rdB]
            refine fun σ G H Q hl Rl post => hx σ G H _ hl Rl fun v G1 H1 R1 g1 rv => ⟨b, (rv.see R1 sx).bl, ?_⟩
            cases b with
            | true =>
              rw [if_pos (show true = isAnd .And from rfl)] at e
              rw [if_pos rfl]
              exact seB ok .And (.cons y es) W _ _ e σ G1 H1 Q hl R1 (post.from g1)
            | false =>
              rw [if_neg (by simp [isAnd])] at e ⊢
              cases e
              exact post _ G1 H1 R1 g1 (.bl _)
          | Or =>
            simp only [rdB]
            refine fun σ G H Q hl Rl post => hx σ G H _ hl Rl fun v G1 H1 R1 g1 rv => ⟨b, (rv.see R1 sx).bl, ?_⟩
            cases b with
            | false =>
              rw [if_pos (show false = isAnd .Or from rfl)] at e
              rw [if_neg (by decide)]
              exact seB ok .Or (.cons y es) W _ _ e σ G1 H1 Q hl R1 (post.from g1)
            | true =>
              rw [if_neg (by simp [isAnd])] at e
              rw [if_pos rfl]
              cases e
              exact post _ G1 H1 R1 g1 (.bl _)
        · cases e
      · cases e
    · intro z; cases z
termination_by es => (sizeOf es, 0)
theorem stB (ok : EvOk Ω cf tf gd fsp tsp n) (op : BoolOp) : ∀ (es : Es) (W : WX) (δ : List Sl) (r : R) (δ1 : List Sl), nIfs es = true → evB cf tf gd op es δ = some (.ok r δ1) → ∀ b, (r.see δ1).bind truD = some b → ST Ω (rdB Ω.P Ω.w Ω.K Ω.gv fsp tsp op es W).2 n δ b δ1
  | .nil, W, δ, r, δ1, nf, e, b, s => by simp only [evB] at e; cases e
  | .cons x .nil, W, δ, r, δ1, nf, e, b, s => by
    simp only [evB] at e
    simp only [rdB]
    exact stE ok x W _ _ _ (by simpa [nIfs] using nf) e b s
  | .cons x (.cons y es), W, δ, r, δ1, nf, e, b, s => by
    simp only [nIfs, Bool.and_eq_true] at nf
    have nf2 : nIfs (.cons y es) = true := by simp only [nIfs, Bool.and_eq_true]; exact nf.2
    rw [evB] at e
    · split at e
      · rename_i r' δ2 ex
        split at e
        · rename_i c sx
          have hx := stE ok x W _ _ _ nf.1 ex c (by rw [sx]; rfl)
          cases op with
          | And =>
            simp only [rdB]
            refine fun σ G H Q hl Rl post => hx σ G H _ hl Rl fun G1 H1 R1 g1 => ?_
            cases c with
            | true =>
              rw [if_pos (show true = isAnd .And from rfl)] at e
              rw [if_pos rfl]
              exact stB ok .And (.cons y es) W _ _ _ nf2 e b s σ G1 H1 Q hl R1 fun G2 H2 R2 g2 => post G2 H2 R2 (g1.trans g2)
            | false =>
              rw [if_neg (by simp [isAnd])] at e ⊢
              cases e
              have hb : b = false := by simpa [R.see, truD] using s.symm
              subst hb
              exact post G1 H1 R1 g1
          | Or =>
            simp only [rdB]
            refine fun σ G H Q hl Rl post => hx σ G H _ hl Rl fun G1 H1 R1 g1 => ?_
            cases c with
            | false =>
              rw [if_pos (show false = isAnd .Or from rfl)] at e
              rw [if_neg (by decide)]
              exact stB ok .Or (.cons y es) W _ _ _ nf2 e b s σ G1 H1 Q hl R1 fun G2 H2 R2 g2 => post G2 H2 R2 (g1.trans g2)
            | true =>
              rw [if_neg (by simp [isAnd])] at e
              rw [if_pos rfl]
              cases e
              have hb : b = true := by simpa [R.see, truD] using s.symm
              subst hb
              exact post G1 H1 R1 g1
        · cases e
      · cases e
    · intro z; cases z
termination_by es => (sizeOf es, 1)
theorem seC (ok : EvOk Ω cf tf gd fsp tsp n) : ∀ (es : Es) (W : WX) (δ : List Sl) (b : Bool) (δ1 : List Sl), evC cf tf gd es δ = some (b, δ1) → ST Ω (rdC Ω.P Ω.w Ω.K Ω.gv fsp tsp es W) n δ b δ1
  | .nil, W, δ, b, δ1, e => by
    simp only [evC] at e
    cases e
    simp only [rdC]
    exact fun σ G H Q hl Rl post => post G H Rl GoE.refl
  | .cons x .nil, W, δ, b, δ1, e => by
    simp only [evC] at e
    simp only [rdC]
    split at e
    · rename_i nf
      split at e
      · rename_i r δ2 ex
        split at e
        · rename_i b' sb
          cases e
          exact stE ok x W _ _ _ nf ex b sb
        · cases e
      · cases e
    · cases e
  | .cons x (.cons y es), W, δ, b, δ1, e => by
    simp only [evC] at e
    cases e
termination_by es => (sizeOf es, 2)
theorem seO (ok : EvOk Ω cf tf gd fsp tsp n) : ∀ (o : Option E) (W : WX) (δ : List Sl) (i : Option Int) (δ1 : List Sl), evO cf tf gd o δ = some (i, δ1) → SOp Ω (rdO Ω.P Ω.w Ω.K Ω.gv fsp tsp o W) n δ i δ1
  | none, W, δ, i, δ1, e => by
    simp only [evO] at e
    cases e
    simp only [rdO]
    exact fun σ G H Q hl Rl post => post G H Rl GoE.refl
  | some x, W, δ, i, δ1, e => by
    simp only [evO] at e
    simp only [rdO]
    split at e
    · rename_i r δ2 ex
      split at e
      · rename_i j sx
        cases e
        exact fun σ G H Q hl Rl post => seE ok x W _ _ ex σ G H _ hl Rl fun v G1 H1 R1 g1 rv => ⟨j, (rv.see R1 sx).int, post G1 H1 R1 g1⟩
      · cases e
    · cases e
termination_by o => (sizeOf o, 0)
theorem seP (ok : EvOk Ω cf tf gd fsp tsp n) : ∀ (ps : Ps) (W : WX) (δ : List Sl) (kvs : List (Key × D)) (δ1 : List Sl), evP cf tf gd ps δ = some (kvs, δ1) → SPr Ω (rdP Ω.P Ω.w Ω.K Ω.gv fsp tsp ps W) n δ kvs δ1
  | .nil, W, δ, kvs, δ1, e => by
    simp only [evP] at e
    cases e
    simp only [rdP]
    exact sp_nil
  | .cons k v ps, W, δ, kvs, δ1, e => by
    rw [evP] at e
    simp only [rdP]
    split at e
    · rename_i rk δ2 ek
      split at e
      · rename_i rv δ3 ev
        split at e
        · rename_i i d δ4 sk ef
          split at e
          · rename_i kvs' δ5 ep
            cases e
            exact sp_cons (seE ok k W _ _ ek) (seE ok v W _ _ ev) sk rfl ef (seP ok ps W _ _ _ ep)
          · cases e
        · rename_i i d δ4 sk ef
          split at e
          · rename_i kvs' δ5 ep
            cases e
            exact sp_cons (seE ok k W _ _ ek) (seE ok v W _ _ ev) sk rfl ef (seP ok ps W _ _ _ ep)
          · cases e
        · cases e
      · cases e
    · cases e
termination_by ps => (sizeOf ps, 0)
theorem seI (ok : EvOk Ω cf tf gd fsp tsp n) : ∀ (it : It) (W : WX) (δ : List Sl) (xs : List D) (δ1 : List Sl) (lk : Option (Nat × Sl)), evI cf tf gd it δ = some (xs, δ1, lk) → SI Ω (rdI Ω.P Ω.w Ω.K Ω.gv fsp tsp it W) n δ xs δ1 lk
  | .seq x, W, δ, xs, δ1, lk, e => by
    simp only [evI] at e
    simp only [rdI]
    split at e
    · rename_i r δ2 ex
      exact si_seq (seE ok x W _ _ ex) e
    · cases e
  | .rng1 q x p, W, δ, xs, δ1, lk, e => by
    simp only [evI] at e
    simp only [rdI]
    split at e
    · rename_i r δ2 ex
      split at e
      · rename_i m sx
        split at e
        · rename_i hz
          cases e
          exact si_rng1 (seE ok x W _ _ ex) sx hz
        · cases e
      · cases e
    · cases e
  | .rng2 q x y p, W, δ, xs, δ1, lk, e => by
    simp only [evI] at e
    simp only [rdI]
    split at e
    · rename_i ra δ2 ea
      split at e
      · rename_i rb δ3 eb
        split at e
        · rename_i i j sx sy
          split at e
          · rename_i hz
            cases e
            exact si_rng2 (seE ok x W _ _ ea) (seE ok y W _ _ eb) sx sy hz
          · cases e
        · cases e
      · cases e
    · cases e
termination_by it => (sizeOf it, 0)
end
end
end Mn

-- Mn17
set_option Elab.async false
set_option linter.all false
set_option maxRecDepth 100000
set_option maxHeartbeats 1000000
set_option autoImplicit false
namespace Mn
open PySem PySem.Spec L2

/-! ## statements: what the evaluator says, the reading asks -/
structure GoS (np : Nat) (δ δ' : List Sl) (σ σ' : L2.St) (G H G' H' : Hp) : Prop where
  go : Go (Own δ σ) G H (Own δ' σ') G' H'
  len : σ'.length = σ.length
  lock : ∀ (i : Nat) (xs : List D), δ[i]? = some (.lock xs) → δ'[i]? = some (.lock xs) ∧ σ'[i]? = σ[i]?
  par : ∀ i : Nat, i < np → σ'[i]? = σ[i]?
  fate : ∀ (i : Nat) (a : Addr), i < np → OwnAt δ σ i a → (∃ xs, Ow δ'[i]? xs) ∨ ∃ o, G' a = some o
/-- a list of the def's own, or one that is new -/
def At (np : Nat) (δ : List Sl) (σ : L2.St) (H : Hp) (a : Addr) : Prop := (∃ j, np ≤ j ∧ OwnAt δ σ j a) ∨ H a = none
section
variable {K : PySem.W.Frag} {T : List (Addr × Str)} {np : Nat} {δ δ0 δ1 δ2 δ' : List Sl} {σ σ' σ1 σ2 : L2.St} {G H G0 H0 G' H' G1 H1 G2 H2 : Hp} {a : Addr} {i : Nat}
theorem GoE.toS (g : GoE δ δ' σ G H G' H') : GoS np δ δ' σ σ G H G' H' := ⟨g.go, rfl, fun i xs h => ⟨g.lock i xs h, rfl⟩, fun _ _ => rfl, fun i a _ h => g.fate i a h⟩
theorem GoS.trans (a : GoS np δ δ1 σ σ1 G H G1 H1) (b : GoS np δ1 δ2 σ1 σ2 G1 H1 G2 H2) : GoS np δ δ2 σ σ2 G H G2 H2 := by
  refine ⟨a.go.trans b.go, b.len.trans a.len, fun i xs h => ?_, fun i h => (b.par i h).trans (a.par i h), fun i x h o => ?_⟩
  · obtain ⟨z1, z2⟩ := a.lock i xs h
    obtain ⟨z3, z4⟩ := b.lock i xs z1
    exact ⟨z3, z4.trans z2⟩
  · rcases a.fate i x h o with z | ⟨u, z⟩
    · exact b.fate i x h ⟨z, by rw [a.par i h]; exact o.2⟩
    · exact .inr ⟨u, b.go.ex _ _ z⟩
theorem at_back (R1 : Rel K T δ1 σ1 G1 H1) (g : GoS np δ δ1 σ σ1 G H G1 H1) (h : At np δ1 σ1 H1 a) : At np δ σ H a := by
  rcases h with ⟨j, hj, o⟩ | n
  · rcases g.go.grow a ⟨j, o⟩ with ⟨k, ok⟩ | n
    · by_cases hk : k < np
      · rcases g.fate k a hk ok with z | ⟨u, z⟩
        · have := R1.sep k j a ⟨z, by rw [g.par k hk]; exact ok.2⟩ o
          omega
        · obtain ⟨⟨xs, w⟩, e⟩ := o
          obtain ⟨b, vs, e1, _, e3, _⟩ := R1.own j xs w
          rw [e] at e1
          cases e1
          rw [z] at e3
          cases e3
      · exact .inl ⟨k, by omega, ok⟩
    · exact .inr n
  · exact .inr (g.go.back n)
theorem lt_some {α : Type} {l : List α} {x : α} (h : l[i]? = some x) : i < l.length := by
  rcases Nat.lt_or_ge i l.length with z | z
  · exact z
  · rw [List.getElem?_eq_none z] at h
    cases h
theorem Rel.forget (R : Rel K T δ σ G H) (li : i < δ.length) : Rel K T (δ.set i .un) σ G H := by
  refine ⟨by rw [List.length_set]; exact R.len, R.sub, R.ntb, R.tab, fun j d q => ?_, fun j zs q => ?_, fun j k b ⟨⟨zs, z⟩, e⟩ ⟨⟨zs', z'⟩, e'⟩ => ?_⟩
  · by_cases hj : j = i
    · subst hj
      rw [List.getElem?_set_self li] at q
      cases q
    · rw [List.getElem?_set_ne (Ne.symm hj)] at q
      exact R.val j d q
  · rcases ow_set li q with ⟨_, z⟩ | ⟨_, z⟩
    · exact absurd z (Sl.no_ow rfl)
    · exact R.own j zs z
  · rcases ow_set li z with ⟨_, z⟩ | ⟨_, z⟩
    · exact absurd z (Sl.no_ow rfl)
    · rcases ow_set li z' with ⟨_, z'⟩ | ⟨_, z'⟩
      · exact absurd z' (Sl.no_ow rfl)
      · exact R.sep j k b ⟨⟨zs, z⟩, e⟩ ⟨⟨zs', z'⟩, e'⟩
/-- what an assignment is to -/
theorem asgS_at {nn : Nat × Nat} {s : Sl} (e : asgS nn i s δ = some δ') : nn.1 ≤ i ∧ (∃ s0, δ[i]? = some s0 ∧ ∀ xs, s0 ≠ .lock xs) ∧ δ' = δ.set i s := by
  unfold asgS at e
  split at e
  · rename_i h
    split at e
    · cases e
    · rename_i s0 hn q
      cases e
      exact ⟨h.1, ⟨s0, q, fun xs z => hn xs (by rw [← z])⟩, rfl⟩
    · cases e
  · cases e
theorem asg_val {nn : Nat × Nat} {v : V} {d : D} (R : Rel K T δ σ G H) (dn : Den K G v d) (e : asgS nn i (.val d) δ = some δ') : Rel K T δ' (σ.set i (some v)) G H ∧ GoS nn.1 δ δ' σ (σ.set i (some v)) G H G H := by
  obtain ⟨hi, ⟨s0, q, nl⟩, rfl⟩ := asgS_at e
  have li := lt_some q
  refine ⟨R.fill li rfl fun d' z => by cases z; exact ⟨v, rfl, dn⟩, ⟨⟨Same.refl _, fun _ _ h _ _ => h, fun _ o h => ⟨o, h⟩, fun _ _ h => .inl h, fun b ⟨j, o⟩ => .inl ⟨j, (own_hide li (s := .val d) rfl o).2⟩⟩, List.length_set, fun j xs h => ?_, fun j h => ?_, fun j b h o => ?_⟩⟩
  · have hj : i ≠ j := fun z => by
      subst z
      rw [q] at h
      exact nl xs (Option.some.inj h)
    rw [List.getElem?_set_ne hj, List.getElem?_set_ne hj]
    exact ⟨h, rfl⟩
  · rw [List.getElem?_set_ne (by omega)]
  · rw [List.getElem?_set_ne (by omega)]
    exact .inl o.1
theorem asg_own {nn : Nat × Nat} {vs : List V} {xs : List D} (R0 : Rel K T δ0 σ G0 H0) (g : GoE δ0 δ σ G0 H0 G H) (R : Rel K T δ σ G H) (h1 : H a = some (.lst vs)) (h2 : G a = none) (h3 : H0 a = none) (h4 : DenL K G vs xs) (e : asgS nn i (.own xs) δ = some δ') :
    Rel K T δ' (σ.set i (some (.ref a))) G H ∧ GoS nn.1 δ0 δ' σ (σ.set i (some (.ref a))) G0 H0 G H := by
  obtain ⟨hi, ⟨s0, q, nl⟩, rfl⟩ := asgS_at e
  have li := lt_some q
  have no := GoE.un_own R0 g h3
  have other : ∀ (j : Nat) (zs : List D), Ow (δ.set i (.own xs))[j]? zs → j ≠ i → Ow δ[j]? zs := fun j zs z hj => by
    rw [List.getElem?_set_ne (Ne.symm hj)] at z
    exact z
  have lσ : i < σ.length := by rw [R.len]; exact li
  have away : ∀ (j : Nat) (b : Addr), OwnAt (δ.set i (.own xs)) (σ.set i (some (.ref a))) j b → j ≠ i → OwnAt δ σ j b := fun j b ⟨⟨zs, z⟩, e⟩ hj => by
    rw [List.getElem?_set_ne (Ne.symm hj)] at e
    exact ⟨⟨zs, other j zs z hj⟩, e⟩
  have here : ∀ b, OwnAt (δ.set i (.own xs)) (σ.set i (some (.ref a))) i b → b = a := fun b ⟨_, e⟩ => by
    rw [List.getElem?_set_self lσ] at e
    cases e
    rfl
  refine ⟨⟨by rw [List.length_set, List.length_set]; exact R.len, R.sub, R.ntb, R.tab, fun j d z => ?_, fun j zs z => ?_, fun j k b o1 o2 => ?_⟩, ⟨⟨g.go.ex, g.go.keep, g.go.live, g.go.new, fun b ⟨j, o⟩ => ?_⟩, List.length_set, fun j zs h => ?_, fun j h => ?_, fun j b h o => ?_⟩⟩
  · by_cases hj : j = i
    · subst hj
      rw [List.getElem?_set_self li] at z
      cases z
    · rw [List.getElem?_set_ne (Ne.symm hj)] at z ⊢
      exact R.val j d z
  · by_cases hj : j = i
    · subst hj
      rw [List.getElem?_set_self li] at z
      rw [List.getElem?_set_self lσ]
      obtain rfl : xs = zs := by
        rcases z with z | z
        · exact Sl.own.inj (Option.some.inj z)
        · cases z
      exact ⟨a, vs, rfl, h1, h2, h4⟩
    · rw [List.getElem?_set_ne (Ne.symm hj)]
      exact R.own j zs (other j zs z hj)
  · by_cases hj : j = i
    · by_cases hk : k = i
      · rw [hj, hk]
      · subst hj
        have eb := here b o1
        subst eb
        exact absurd ⟨k, away k b o2 hk⟩ no
    · by_cases hk : k = i
      · subst hk
        have eb := here b o2
        subst eb
        exact absurd ⟨j, away j b o1 hj⟩ no
      · exact R.sep j k b (away j b o1 hj) (away k b o2 hk)
  · by_cases hj : j = i
    · subst hj
      rw [here b o]
      exact .inr h3
    · exact g.go.grow b ⟨j, away j b o hj⟩
  · have z := g.lock j zs h
    have hj : i ≠ j := fun y => by
      subst y
      rw [q] at z
      exact nl zs (Option.some.inj z)
    rw [List.getElem?_set_ne hj, List.getElem?_set_ne hj]
    exact ⟨z, rfl⟩
  · rw [List.getElem?_set_ne (by omega)]
  · rw [List.getElem?_set_ne (by omega)]
    exact g.fate j b o
theorem unlockS_ok {lk : Option (Nat × Sl)} (g1 : GoE δ δ1 σ G H G1 H1) (l : LkOk δ δ1 lk) (g2 : GoS np δ1 δ2 σ σ2 G1 H1 G2 H2) (R2 : Rel K T δ2 σ2 G2 H2) : Rel K T (unlockS δ2 lk) σ2 G2 H2 ∧ GoS np δ (unlockS δ2 lk) σ σ2 G H G2 H2 := by
  have g := g1.toS.trans g2
  cases lk with
  | none => exact ⟨R2, g⟩
  | some p =>
    obtain ⟨i, s⟩ := p
    obtain ⟨xs, e, z1, z2⟩ := l
    subst e
    have o := (g2.lock i xs z1).1
    have li := lt_of_ow (.inr o : Ow δ2[i]? xs)
    have ow : ∀ (j : Nat) (zs : List D), Ow (δ2.set i (.own xs))[j]? zs → Ow δ2[j]? zs := fun j zs q => by
      rcases ow_set li q with ⟨hj, z⟩ | ⟨_, z⟩
      · subst hj
        rcases z with z | z
        · cases z
          exact .inr o
        · cases z
      · exact z
    refine ⟨⟨by show σ2.length = (δ2.set i (.own xs)).length; rw [List.length_set]; exact R2.len, R2.sub, R2.ntb, R2.tab, fun j d q => ?_, fun j zs q => R2.own j zs (ow j zs q), fun j k b ⟨⟨zs, z1⟩, e1⟩ ⟨⟨zs', z2⟩, e2⟩ => R2.sep j k b ⟨⟨zs, ow j zs z1⟩, e1⟩ ⟨⟨zs', ow k zs' z2⟩, e2⟩⟩,
      ⟨⟨g.go.ex, g.go.keep, g.go.live, g.go.new, fun b ⟨j, ⟨zs, z⟩, e⟩ => g.go.grow b ⟨j, ⟨zs, ow j zs z⟩, e⟩⟩, g.len, fun j zs q => ?_, g.par, fun j x h hx => ?_⟩⟩
    · have q : (δ2.set i (.own xs))[j]? = some (.val d) := q
      by_cases hj : j = i
      · subst hj
        rw [List.getElem?_set_self li] at q
        cases q
      · rw [List.getElem?_set_ne (Ne.symm hj)] at q
        exact R2.val j d q
    · have hj : j ≠ i := fun y => by
        subst y
        exact z2 zs q
      show (δ2.set i (.own xs))[j]? = _ ∧ _
      rw [List.getElem?_set_ne (Ne.symm hj)]
      exact g.lock j zs q
    · show (∃ ys, Ow (δ2.set i (.own xs))[j]? ys) ∨ _
      by_cases hj : j = i
      · subst hj
        exact .inl ⟨xs, .inl (List.getElem?_set_self li)⟩
      · rw [List.getElem?_set_ne (Ne.symm hj)]
        exact g.fate j x h hx
end

section
variable (Ω : Wd)
def PostS (np : Nat) (W : WX) (σ : L2.St) (δ : List Sl) (G H : Hp) (D : Ends) : SO → Prop
  | .nx δ' => ∀ σ' G' H', Rel Ω.K Ω.T δ' σ' G' H' → GoS np δ δ' σ σ' G H G' H' → D.nx σ' H'
  | .rt (.val d) δ' => ∀ v σ' G' H', Rel Ω.K Ω.T δ' σ' G' H' → GoS np δ δ' σ σ' G H G' H' → Den Ω.K G' v d → D.rt v H'
  | .rt (.new xs) δ' => ∀ a vs σ' G' H', Rel Ω.K Ω.T δ' σ' G' H' → GoS np δ δ' σ σ' G H G' H' → H' a = some (.lst vs) → G' a = none → DenL Ω.K G' vs xs → At np δ σ H a → D.rt (.ref a) H'
  | .ex c d δ' => ∀ v x σ' G' H', Rel Ω.K Ω.T δ' σ' G' H' → GoS np δ δ' σ σ' G H G' H' → H' x = some (.xd [("value", v)]) → Den Ω.K G' v d → W (.ref (Ω.ca c)) (some x) σ' H'
def SS (ts : TS) (W : WX) (np n : Nat) (δ : List Sl) (o : SO) : Prop := ∀ (σ : L2.St) (G H : Hp) (D : Ends), σ.length = n → Rel Ω.K Ω.T δ σ G H → PostS Ω np W σ δ G H D o → ts D σ H
/-- a target -/
def SG (tg : TG) (np n : Nat) (δ : List Sl) (d : D) (δ' : List Sl) : Prop := ∀ (σ : L2.St) (G H : Hp) (v : V) (Q : L2.St → Hp → Prop), σ.length = n → Rel Ω.K Ω.T δ σ G H → Den Ω.K G v d →
  (∀ σ' G' H', Rel Ω.K Ω.T δ' σ' G' H' → GoS np δ δ' σ σ' G H G' H' → Q σ' H') → tg v σ H Q
end
section
variable {Ω : Wd} {W : WX} {np n : Nat} {nn : Nat × Nat} {δ δ1 δ2 δ3 δ' : List Sl} {te ta tb to ti : TE} {r ra rb ro ri : R} {o : SO} {i j x : Nat} {d d' : D}
theorem PostS.from {σ σ1 : L2.St} {G H G1 H1 : Hp} {D : Ends} (post : PostS Ω np W σ δ G H D o) (R1 : Rel Ω.K Ω.T δ1 σ1 G1 H1) (g : GoS np δ δ1 σ σ1 G H G1 H1) : PostS Ω np W σ1 δ1 G1 H1 D o := by
  cases o with
  | nx δ' => exact fun σ' G' H' R' g' => post σ' G' H' R' (g.trans g')
  | rt r δ' =>
    cases r with
    | val d => exact fun v σ' G' H' R' g' dn => post v σ' G' H' R' (g.trans g') dn
    | new xs => exact fun a vs σ' G' H' R' g' h1 h2 h3 h4 => post a vs σ' G' H' R' (g.trans g') h1 h2 h3 (at_back R1 g h4)
  | ex c d δ' => exact fun v x σ' G' H' R' g' h1 h2 => post v x σ' G' H' R' (g.trans g') h1 h2
theorem ss_asg (he : SE Ω te W n δ (.ok r δ1)) (ea : asgR nn i r δ1 = some δ2) : SS Ω (tAsg te (gName i)) W nn.1 n δ (.nx δ2) := fun σ G H D hl Rl post => he σ G H _ hl Rl fun v G1 H1 R1 g1 rv => by
  unfold asgR at ea
  split at ea
  · obtain ⟨a, vs, rfl, h1, h2, h3, h4⟩ := rv
    obtain ⟨R2, g2⟩ := asg_own Rl g1 R1 h1 h2 h3 h4 ea
    exact post _ _ _ R2 g2
  · split at ea
    · rename_i d δ3 ef
      obtain ⟨G3, R3, g3, dn, _⟩ := frz_ok Rl g1 R1 rv ef
      obtain ⟨R4, g4⟩ := asg_val R3 dn ea
      exact post _ _ _ R4 (g3.toS.trans g4)
    · cases ea
theorem ss_exc {g : TG} {c : Nat} (he : SE Ω te W n δ (.exc c d δ1)) : SS Ω (tAsg te g) W np n δ (.ex c d δ1) := fun σ G H D hl Rl post => he σ G H _ hl Rl fun v x G1 H1 R1 g1 hx dn => post v x σ G1 H1 R1 g1.toS hx dn
theorem ss_excD {c : Nat} (he : SE Ω te W n δ (.exc c d δ1)) : SS Ω (tDrop te) W np n δ (.ex c d δ1) := fun σ G H D hl Rl post => he σ G H _ hl Rl fun v x G1 H1 R1 g1 hx dn => post v x σ G1 H1 R1 g1.toS hx dn
theorem ss_excR {c : Nat} (he : SE Ω te W n δ (.exc c d δ1)) : SS Ω (tRet te) W np n δ (.ex c d δ1) := fun σ G H D hl Rl post => he σ G H _ hl Rl fun v x G1 H1 R1 g1 hx dn => post v x σ G1 H1 R1 g1.toS hx dn
theorem ss_exp (he : SE Ω te W n δ (.ok r δ1)) : SS Ω (tDrop te) W np n δ (.nx δ1) := fun σ G H D hl Rl post => he σ G H _ hl Rl fun v G1 H1 R1 g1 rv => post σ G1 H1 R1 g1.toS
theorem ss_ret (he : SE Ω te W n δ (.ok r δ1)) (er : retR nn r δ1 = some o) : SS Ω (tRet te) W nn.1 n δ o := fun σ G H D hl Rl post => he σ G H _ hl Rl fun v G1 H1 R1 g1 rv => by
  unfold retR at er
  split at er
  · cases er
    exact post v σ G1 H1 R1 g1.toS rv
  · cases er
    obtain ⟨a, vs, rfl, h1, h2, h3, h4⟩ := rv
    exact post a vs σ G1 H1 R1 g1.toS h1 h2 h4 (.inr h3)
  · rename_i i
    split at er
    · rename_i xs q
      split at er
      · rename_i lc
        cases er
        obtain ⟨a, vs, e1, h1, h2, h3⟩ := R1.own i xs (.inl q)
        have rv : σ[i]? = some (some v) := rv
        have rv' := rv
        rw [rv] at e1
        cases e1
        have li := lt_some q
        refine post a vs σ G1 H1 (R1.forget li) ?_ h1 h2 h3 (at_back R1 g1.toS (.inl ⟨i, lc.1, ⟨xs, .inl q⟩, rv'⟩))
        have g := g1.toS (np := nn.1)
        refine ⟨⟨g.go.ex, g.go.keep, g.go.live, g.go.new, fun b ⟨j, ⟨zs, z⟩, e⟩ => ?_⟩, g.len, fun j zs h => ?_, g.par, fun j b h hx => ?_⟩
        · rcases ow_set li z with ⟨_, z⟩ | ⟨_, z⟩
          · exact absurd z (Sl.no_ow rfl)
          · exact g.go.grow b ⟨j, ⟨zs, z⟩, e⟩
        · obtain ⟨z1, z2⟩ := g.lock j zs h
          have hj : i ≠ j := fun y => by
            subst y
            rw [z1] at q
            cases q
          rw [List.getElem?_set_ne hj]
          exact ⟨z1, z2⟩
        · rw [List.getElem?_set_ne (by have := lc.1; omega)]
          exact g.fate j b h hx
      · cases er
        obtain ⟨G3, R3, g3, dn, _⟩ := frz_ok (r := .bor i) (d := .lst xs) (δ' := δ1.set i (.val (.lst xs))) Rl g1 R1 rv (by simp only [frz, q])
        exact post v σ G3 H1 R3 g3.toS dn
    · cases er
theorem ss_if {tc : TT} {tx ty : TS} {b : Bool} (hc : ST Ω tc n δ b δ1) (h : SS Ω (if b then tx else ty) W np n δ1 o) : SS Ω (tIfS tc tx ty) W np n δ o := fun σ G H D hl Rl post => hc σ G H _ hl Rl fun G1 H1 R1 g1 => by
  have z := h σ G1 H1 D hl R1 (post.from R1 g1.toS)
  cases b with
  | true => exact z
  | false => exact z
theorem ss_seq {tx ty : TS} (h1 : SS Ω tx W np n δ (.nx δ1)) (h2 : SS Ω ty W np n δ1 o) : SS Ω (tSeq tx ty) W np n δ o := fun σ G H D hl Rl post =>
  h1 σ G H _ hl Rl fun σ1 G1 H1 R1 g1 => h2 σ1 G1 H1 D (g1.len.trans hl) R1 (post.from R1 g1)
theorem ss_seq1 {tx ty : TS} (hn : ∀ δ', o ≠ .nx δ') (h1 : SS Ω tx W np n δ o) : SS Ω (tSeq tx ty) W np n δ o := fun σ G H D hl Rl post => h1 σ G H _ hl Rl (by
  cases o with
  | nx δ' => exact absurd rfl (hn δ')
  | rt r δ' => cases r <;> exact post
  | ex c d δ' => exact post)
theorem ss_raise {c : Nat} (he : SE Ω te W n δ (.ok r δ1)) (ef : frz δ1 r = some (d, δ2)) : SS Ω (tRaise (Ω.ca c) te W) W np n δ (.ex c d δ2) := fun σ G H D hl Rl post => he σ G H _ hl Rl fun v G1 H1 R1 g1 rv x hx => by
  obtain ⟨G3, R3, g3, dn, _⟩ := frz_ok Rl g1 R1 rv ef
  exact post v x σ G3 _ (R3.laid hx) (g3.trans (GoE.laid hx)).toS upd_same dn
theorem ss_par {ta : TA} {rs : List R} {y z : D} {δ4 : List Sl} (h : SA Ω ta W n δ (.ok rs δ1)) (ef : frzs δ1 rs = some ([y, z], δ2)) (e1 : asgS nn i (.val y) δ2 = some δ3) (e2 : asgS nn j (.val z) δ3 = some δ4) : SS Ω (tPar i j ta) W nn.1 n δ (.nx δ4) := fun σ G H D hl Rl post =>
  h σ G H _ hl Rl fun vs G1 H1 R1 g1 rvs => by
    obtain ⟨G2, R2, g2, dn, _⟩ := frzs_ok Rl g1 R1 rvs ef
    cases dn with
    | cons d1 t =>
      cases t with
      | cons d2 t =>
        cases t
        obtain ⟨R3, g3⟩ := asg_val R2 d1 e1
        obtain ⟨R4, g4⟩ := asg_val R3 d2 e2
        exact ⟨_, _, rfl, post _ _ _ R4 ((g2.toS.trans g3).trans g4)⟩
theorem sg_nm (e : asgS nn i (.val d) δ = some δ') : SG Ω (gName i) nn.1 n δ d δ' := fun σ G H v Q hl Rl dn post => by
  obtain ⟨R1, g1⟩ := asg_val Rl dn e
  exact post _ _ _ R1 g1
theorem setD_ok {K : PySem.W.Frag} {T : List (Addr × Str)} {σ : L2.St} {G H G0 H0 : Hp} {δ0 : List Sl} {vo vi v : V} {rv : R} {Q : Hp → Prop} (R0 : Rel K T δ0 σ G0 H0) (g0 : GoE δ0 δ σ G0 H0 G H) (R : Rel K T δ σ G H) (ho : RV K G H σ H0 vo ro) (hi : RV K G H σ H0 vi ri) (hv : RV K G H σ H0 v rv)
    (e : setD ro ri rv δ = some δ') (q : ∀ G' H', Rel K T δ' σ G' H' → GoE δ0 δ' σ G0 H0 G' H' → Q H') : rSetL vo vi v H Q := by
  unfold setD at e
  split at e
  · rename_i i
    split at e
    · rename_i d δ1 ef
      split at e
      · rename_i xs k eo ek
        split at e
        · rename_i m em
          cases e
          obtain ⟨G1, R1, g1, dn, _⟩ := frz_ok R0 g0 R hv ef
          have ho : σ[i]? = some (some vo) := ho
          obtain ⟨a, ws, z1, z2, z3, z4⟩ := R1.own i xs (.inl eo)
          have z1' := z1
          rw [ho] at z1
          cases z1
          have hk : vi = .int k := by
            have s : See K G1 H vi (.int k) := by
              cases ri with
              | val d' =>
                cases ek
                have hi : Den K G vi (.int k) := hi
                cases hi
                exact .inl (.int k)
              | new ys => cases ek
              | bor l => exact RV.see (r := .bor l) (H0 := H0) hi R1 ek
            exact s.int
          refine ⟨a, ws, k, m, rfl, hk, z2, by rw [z4.length]; exact em, ?_⟩
          exact q G1 _ (R1.put eo z1' (z4.set dn m)) (g1.put R1 eo z1')
        · cases e
      · cases e
    · cases e
  · cases e
theorem ss_sub (he : SE Ω te W n δ (.ok r δ1)) (ho : SE Ω to W n δ1 (.ok ro δ2)) (hi : SE Ω ti W n δ2 (.ok ri δ3)) (e : setD ro ri r δ3 = some δ') : SS Ω (tAsg te (gSub to ti rSetL)) W np n δ (.nx δ') := fun σ G H D hl Rl post =>
  he σ G H _ hl Rl fun v G1 H1 R1 g1 rv => ho σ G1 H1 _ hl R1 fun vo G2 H2 R2 g2 rvo => hi σ G2 H2 _ hl R2 fun vi G3 H3 R3 g3 rvi => by
    have g23 := g2.trans g3
    exact setD_ok Rl (g1.trans g23) R3 ((rvo.stay R1 g2 g3).back g1) (rvi.back (g1.trans g2)) (rv.stay Rl g1 g23) e fun G' H' R' g' => post σ G' H' R' g'.toS
theorem sg_sub (ho : SE Ω to W n δ (.ok ro δ2)) (hi : SE Ω ti W n δ2 (.ok ri δ3)) (e : setD ro ri (.val d) δ3 = some δ') : SG Ω (gSub to ti rSetL) np n δ d δ' := fun σ G H v Q hl Rl dn post =>
  ho σ G H _ hl Rl fun vo G2 H2 R2 g2 rvo => hi σ G2 H2 _ hl R2 fun vi G3 H3 R3 g3 rvi => by
    have g23 := g2.trans g3
    exact setD_ok (rv := .val d) Rl g23 R3 (rvo.stay Rl g2 g3) (rvi.back g2) (dn.mono g23.go.ex) e fun G' H' R' g' => post σ G' H' R' g'.toS
theorem ss_unp {g1 g2 : TG} {y z : D} {δ4 : List Sl} (he : SE Ω te W n δ (.ok r δ1)) (ef : frz δ1 r = some (.tup [y, z], δ2)) (h1 : SG Ω g1 np n δ2 y δ3) (h2 : SG Ω g2 np n δ3 z δ4) : SS Ω (tAsg te (gTup Ω.K 2 (gCons g1 (gCons g2 gNil)))) W np n δ (.nx δ4) := fun σ G H D hl Rl post =>
  he σ G H _ hl Rl fun v G1 H1 R1 q1 rv => by
    obtain ⟨G2, R2, q2, dn, _⟩ := frz_ok Rl q1 R1 rv ef
    cases dn with
    | tup hs t =>
      cases t with
      | cons d1 t =>
        cases t with
        | cons d2 t =>
          cases t
          refine ⟨_, _, rfl, sqT_mono R2.sub hs, rfl, _, _, rfl, h1 σ G2 H1 _ _ hl R2 d1 fun σ3 G3 H3 R3 q3 => ⟨_, _, rfl, h2 σ3 G3 H3 _ _ (q3.len.trans hl) R3 (d2.mono q3.go.ex) fun σ4 G4 H4 R4 q4 => ⟨rfl, ?_⟩⟩⟩
          exact post σ4 G4 H4 R4 ((q2.toS.trans q3).trans q4)
theorem PostS.unlock {lk : Option (Nat × Sl)} {σ σ1 : L2.St} {G H G1 H1 G2 H2 : Hp} {D : Ends} (hn : ∀ δ', o ≠ .nx δ') (post : PostS Ω np W σ δ G H D (unlockO lk o)) (R1 : Rel Ω.K Ω.T δ1 σ G1 H1) (g1 : GoE δ δ1 σ G H G1 H1) (l : LkOk δ δ1 lk) (R2 : Rel Ω.K Ω.T δ2 σ1 G2 H2) (g2 : GoS np δ1 δ2 σ σ1 G1 H1 G2 H2) {N B C : L2.St → Hp → Prop} :
    PostS Ω np W σ1 δ2 G2 H2 ⟨N, D.rt, B, C⟩ o := by
  cases o with
  | nx δ' => exact absurd rfl (hn δ')
  | rt r δ' =>
    cases r with
    | val d =>
      intro v σ' G' H' R' g' dn
      obtain ⟨R3, g3⟩ := unlockS_ok g1 l (g2.trans g') R'
      exact post v σ' G' H' R3 g3 dn
    | new xs =>
      intro a vs σ' G' H' R' g' h1 h2 h3 h4
      obtain ⟨R3, g3⟩ := unlockS_ok g1 l (g2.trans g') R'
      exact post a vs σ' G' H' R3 g3 h1 h2 h3 (at_back R1 g1.toS (at_back R2 g2 h4))
  | ex c d δ' =>
    intro v x σ' G' H' R' g' h1 h2
    obtain ⟨R3, g3⟩ := unlockS_ok g1 l (g2.trans g') R'
    exact post v x σ' G' H' R3 g3 h1 h2
theorem ss_for {wi : TI} {ts : TS} {xs : List D} {lk : Option (Nat × Sl)} {fb : List Sl → Option SO} (hi : SI Ω wi n δ xs δ1 lk) (hb : ∀ δ o, fb δ = some o → SS Ω ts W nn.1 n δ o) (e : frL nn fb x xs δ1 = some o) : SS Ω (tFor wi (gName x) ts) W nn.1 n δ (unlockO lk o) := by
  intro σ G H D hl Rl post
  refine hi σ G H _ hl Rl fun J G1 H1 R1 g1 lko src => ?_
  refine ⟨fun i m σi Hi => i ≤ xs.length ∧ m = xs.length - i ∧ ∃ δi Gi, frL nn fb x (xs.drop i) δi = some o ∧ Rel Ω.K Ω.T δi σi Gi Hi ∧ GoS nn.1 δ1 δi σ σi G1 H1 Gi Hi, ⟨_, Nat.zero_le _, rfl, δ1, G1, e, R1, GoE.refl.toS⟩, ?_⟩
  rintro i m σi Hi ⟨hi', hm, δi, Gi, el, Ri, gi⟩
  have sr : Src Ω.K Gi Hi J xs := src _ _ _ _ ⟨Ri, gi.go.ex, gi.go.keep, gi.lock⟩
  by_cases hx : i < xs.length
  · refine .inr ⟨sr.go i hx, fun σ' H' => ∃ m', m' < m ∧ _, fun σ' H' z => z, fun v H' y => ?_⟩
    obtain ⟨eh, d, e1, dv⟩ := sr.yl i v H' y hx
    subst eh
    rw [List.drop_eq_getElem_cons hx] at el
    have ed : xs[i] = d := by
      rw [List.getElem?_eq_getElem hx] at e1
      exact Option.some.inj e1
    rw [ed] at el
    unfold frL at el
    split at el
    · rename_i δ2 ea
      obtain ⟨R2, g2⟩ := asg_val Ri dv ea
      have g12 := gi.trans g2
      have l2 := g12.len.trans hl
      split at el
      · rename_i δ3 eb
        refine hb _ _ eb _ _ _ _ l2 R2 fun σ3 G3 H3 R3 g3 => ⟨xs.length - (i + 1), by omega, hx, rfl, δ3, G3, el, R3, g12.trans g3⟩
      · rename_i hn
        refine hb _ _ el _ _ _ _ l2 R2 (PostS.unlock (fun δ' z => hn δ' (by rw [el, z])) post R1 g1 lko R2 g12)
    · cases el
  · have hi2 : i = xs.length := by omega
    subst hi2
    rw [List.drop_length] at el
    unfold frL at el
    cases el
    obtain ⟨R3, g3⟩ := unlockS_ok g1 lko gi Ri
    exact .inl ⟨sr.st, post _ _ _ R3 g3⟩
end
end Mn

-- Mn18
set_option Elab.async false
set_option linter.all false
set_option maxRecDepth 100000
set_option maxHeartbeats 1000000
set_option autoImplicit false
namespace Mn
open PySem PySem.Spec L2
section
variable {Ω : Wd} {cf : Nat → List Sl → Option CO} {tf : EO → Option EO} {gd : List D} {fsp : Nat → Sp} {tsp : (XK → TE) → TE} {n : Nat} {nn : Nat × Nat}
theorem sgT (ok : EvOk Ω cf tf gd fsp tsp n) (t : Tg) (W : WX) (δ : List Sl) (d : D) (δ' : List Sl) (e : asgT cf tf gd nn t d δ = some δ') : SG Ω (rdT Ω.P Ω.w Ω.K Ω.gv fsp tsp W t) nn.1 n δ d δ' := by
  unfold asgT at e
  split at e
  · simp only [rdT]
    exact sg_nm e
  · simp only [rdT]
    split at e
    · rename_i ro δ1 eo
      split at e
      · rename_i ri δ2 ei
        exact sg_sub (seE ok _ W _ _ eo) (seE ok _ W _ _ ei) e
      · cases e
    · cases e
mutual
theorem ssS (ok : EvOk Ω cf tf gd fsp tsp n) : ∀ (s : S) (W : WX) (δ : List Sl) (o : SO), evS cf tf gd nn s δ = some o → SS Ω (rdS Ω.P Ω.w Ω.K Ω.gv Ω.ca fsp tsp s W) W nn.1 n δ o
  | .asg i q e p, W, δ, o, h => by
    simp only [evS] at h
    simp only [rdS]
    split at h
    · rename_i r δ1 ee
      split at h
      · rename_i δ2 ea
        cases h
        exact ss_asg (seE ok e W _ _ ee) ea
      · cases h
    · rename_i c d δ1 ee
      cases h
      exact ss_exc (seE ok e W _ _ ee)
    · cases h
  | .par i j q1 q2 k tp a b k2 vp p, W, δ, o, h => by
    simp only [evS] at h
    simp only [rdS]
    split at h
    · rename_i rs δ1 ee
      split at h
      · rename_i x y δ2 ef
        split at h
        · rename_i δ3 e1
          split at h
          · rename_i δ4 e2
            cases h
            have := seA ok (.cons a (.cons b .nil)) W _ _ ee
            simp only [rdA] at this
            exact ss_par this ef e1 e2
          · cases h
        · cases h
      · cases h
    · cases h
  | .unp t1 t2 k tp e p, W, δ, o, h => by
    simp only [evS] at h
    simp only [rdS]
    split at h
    · rename_i r δ1 ee
      split at h
      · rename_i x y δ2 ef
        split at h
        · rename_i δ3 e1
          split at h
          · rename_i δ4 e2
            cases h
            exact ss_unp (seE ok e W _ _ ee) ef (sgT ok t1 W _ _ _ e1) (sgT ok t2 W _ _ _ e2)
          · cases h
        · cases h
      · cases h
    · cases h
  | .sub o' i q e p, W, δ, o, h => by
    simp only [evS] at h
    simp only [rdS]
    split at h
    · rename_i r δ1 ee
      split at h
      · rename_i ro δ2 eo
        split at h
        · rename_i ri δ3 ei
          split at h
          · rename_i δ4 es
            cases h
            exact ss_sub (seE ok e W _ _ ee) (seE ok o' W _ _ eo) (seE ok i W _ _ ei) es
          · cases h
        · cases h
      · cases h
    · cases h
  | .exp e p, W, δ, o, h => by
    simp only [evS] at h
    simp only [rdS]
    split at h
    · rename_i r δ1 ee
      cases h
      exact ss_exp (seE ok e W _ _ ee)
    · rename_i c d δ1 ee
      cases h
      exact ss_excD (seE ok e W _ _ ee)
    · cases h
  | .ret e p, W, δ, o, h => by
    simp only [evS] at h
    simp only [rdS]
    split at h
    · rename_i r δ1 ee
      exact ss_ret (seE ok e W _ _ ee) h
    · rename_i c d δ1 ee
      cases h
      exact ss_excR (seE ok e W _ _ ee)
    · cases h
  | .iff c a b p, W, δ, o, h => by
    simp only [evS] at h
    simp only [rdS]
    split at h
    · rename_i nf
      split at h
      · rename_i r δ1 ec
        split at h
        · rename_i sb
          exact ss_if (b := true) (stE ok c W _ _ _ nf ec true sb) (ssSs ok a W _ _ h)
        · rename_i sb
          exact ss_if (b := false) (stE ok c W _ _ _ nf ec false sb) (ssSs ok b W _ _ h)
        · cases h
      · cases h
    · cases h
  | .fr x xp it b p, W, δ, o, h => by
    simp only [evS] at h
    simp only [rdS]
    split at h
    · rename_i xs δ1 lk ei
      split at h
      · rename_i o' ef
        cases h
        exact ss_for (seI ok it W _ _ _ _ ei) (fun δ o hb => ssSs ok b W _ _ hb) ef
      · cases h
    · cases h
  | .raise c q e p1 p, W, δ, o, h => by
    simp only [evS] at h
    simp only [rdS]
    split at h
    · rename_i r δ1 ee
      split at h
      · rename_i d δ2 ef
        cases h
        exact ss_raise (seE ok e W _ _ ee) ef
      · cases h
    · cases h
theorem ssSs (ok : EvOk Ω cf tf gd fsp tsp n) : ∀ (ss : Ss) (W : WX) (δ : List Sl) (o : SO), evSs cf tf gd nn ss δ = some o → SS Ω (rdSs Ω.P Ω.w Ω.K Ω.gv Ω.ca fsp tsp ss W) W nn.1 n δ o
  | .nil, W, δ, o, h => by
    simp only [evSs] at h
    simp only [rdSs]
    cases h
    exact fun σ G H D hl Rl post => post σ G H Rl GoE.refl.toS
  | .cons s ss, W, δ, o, h => by
    simp only [evSs] at h
    simp only [rdSs]
    split at h
    · rename_i δ1 e1
      exact ss_seq (ssS ok s W _ _ e1) (ssSs ok ss W _ _ h)
    · rename_i hn
      exact ss_seq1 (fun δ' z => hn δ' (by rw [h, z])) (ssS ok s W _ _ h)
end
end
end Mn

-- Mn19
set_option Elab.async false
set_option linter.all false
set_option maxRecDepth 100000
set_option maxHeartbeats 1000000
set_option autoImplicit false
namespace Mn
open PySem PySem.Spec L2

/-! ## defs -/
theorem backA_len : ∀ (as δ : List Sl), (backA as δ).length = as.length
  | [], _ => by simp [backA]
  | s :: as, [] => by cases s <;> simp [backA]
  | .val d :: as, t :: δ => by simp [backA, backA_len as δ]
  | .un :: as, t :: δ => by simp [backA, backA_len as δ]
  | .own xs :: as, t :: δ => by simp [backA, backA_len as δ]
  | .lock xs :: as, t :: δ => by simp [backA, backA_len as δ]
theorem backA_at : ∀ (as δ : List Sl) (i : Nat) (s : Sl), (backA as δ)[i]? = some s → as[i]? = some s ∨ ((∃ xs, Ow as[i]? xs) ∧ δ[i]? = some s)
  | [], _, i, s, h => by simp [backA] at h
  | a :: as, [], i, s, h => by
    have : backA (a :: as) [] = a :: as := by cases a <;> rfl
    rw [this] at h
    exact .inl h
  | a :: as, t :: δ, 0, s, h => by
    cases a with
    | val d => exact .inl h
    | un => exact .inl h
    | own xs => exact .inr ⟨⟨xs, .inl rfl⟩, h⟩
    | lock xs => exact .inr ⟨⟨xs, .inr rfl⟩, h⟩
  | a :: as, t :: δ, i + 1, s, h => by
    have h' : (backA as δ)[i]? = some s := by
      cases a <;> exact h
    rcases backA_at as δ i s h' with z | ⟨z1, z2⟩
    · exact .inl (by simpa using z)
    · exact .inr ⟨by simpa using z1, by simpa using z2⟩
theorem backA_ow : ∀ (as δ : List Sl) (i : Nat) (xs : List D) (s : Sl), Ow as[i]? xs → δ[i]? = some s → (backA as δ)[i]? = some s
  | [], _, i, xs, s, h, _ => by rcases h with h | h <;> simp at h
  | a :: as, [], i, xs, s, _, h => by simp at h
  | a :: as, t :: δ, 0, xs, s, h, e => by
    cases a with
    | val d => rcases h with h | h <;> cases h
    | un => rcases h with h | h <;> cases h
    | own xs => exact e
    | lock xs => exact e
  | a :: as, t :: δ, i + 1, xs, s, h, e => by
    have z := backA_ow as δ i xs s (by simpa using h) (by simpa using e)
    cases a <;> exact z
section
variable {K : PySem.W.Frag} {T : List (Addr × Str)} {as δ' : List Sl} {vs : List V} {σ' : L2.St} {G H G' H' : Hp} {m : Nat}
/-- the frame at the entry -/
def fr0 (as : List Sl) (m : Nat) : List Sl := as ++ List.replicate m .un
def st0 (vs : List V) (m : Nat) : L2.St := vs.map some ++ List.replicate m none
theorem fr0_lt {i : Nat} (h : i < as.length) : (fr0 as m)[i]? = as[i]? := List.getElem?_append_left h
theorem fr0_ow {i : Nat} {xs : List D} (h : Ow (fr0 as m)[i]? xs) : i < as.length ∧ Ow as[i]? xs := by
  by_cases hi : i < as.length
  · rw [fr0_lt hi] at h
    exact ⟨hi, h⟩
  · unfold fr0 at h
    rw [List.getElem?_append_right (by omega)] at h
    rcases h with h | h
    · have := List.mem_of_getElem? h
      rw [List.mem_replicate] at this
      cases this.2
    · have := List.mem_of_getElem? h
      rw [List.mem_replicate] at this
      cases this.2
theorem fr0_val {i : Nat} {d : D} (h : (fr0 as m)[i]? = some (.val d)) : i < as.length ∧ as[i]? = some (.val d) := by
  by_cases hi : i < as.length
  · rw [fr0_lt hi] at h
    exact ⟨hi, h⟩
  · unfold fr0 at h
    rw [List.getElem?_append_right (by omega)] at h
    have := List.mem_of_getElem? h
    rw [List.mem_replicate] at this
    cases this.2
theorem st0_lt {i : Nat} (h : i < vs.length) : (st0 vs m)[i]? = (vs.map some)[i]? := List.getElem?_append_left (by rw [List.length_map]; exact h)
theorem fr0_own (l : vs.length = as.length) {i : Nat} {a : Addr} (h : OwnAt (fr0 as m) (st0 vs m) i a) : i < as.length ∧ OwnAt as (vs.map some) i a := by
  obtain ⟨⟨xs, z⟩, e⟩ := h
  obtain ⟨hi, z⟩ := fr0_ow z
  rw [st0_lt (by omega)] at e
  exact ⟨hi, ⟨xs, z⟩, e⟩
theorem fr0_own' (l : vs.length = as.length) {i : Nat} {a : Addr} (h : OwnAt as (vs.map some) i a) : OwnAt (fr0 as m) (st0 vs m) i a := by
  obtain ⟨⟨xs, z⟩, e⟩ := h
  have hi := lt_of_ow z
  exact ⟨⟨xs, by rw [fr0_lt hi]; exact z⟩, by rw [st0_lt (by omega)]; exact e⟩
theorem fr0_rel (R : Rel K T as (vs.map some) G H) : Rel K T (fr0 as m) (st0 vs m) G H := by
  have l : vs.length = as.length := by have := R.len; rw [List.length_map] at this; exact this
  refine ⟨by unfold fr0 st0; rw [List.length_append, List.length_append, List.length_map, List.length_replicate, List.length_replicate, l], R.sub, R.ntb, R.tab, fun i d h => ?_, fun i xs h => ?_, fun i j a o1 o2 => ?_⟩
  · obtain ⟨hi, h⟩ := fr0_val h
    rw [st0_lt (by omega)]
    exact R.val i d h
  · obtain ⟨hi, h⟩ := fr0_ow h
    rw [st0_lt (by omega)]
    exact R.own i xs h
  · exact R.sep i j a (fr0_own l o1).2 (fr0_own l o2).2
theorem back_ok (R0 : Rel K T as (vs.map some) G H) (R' : Rel K T δ' σ' G' H') (g : GoS as.length (fr0 as m) δ' (st0 vs m) σ' G H G' H') : Rel K T (backA as δ') (vs.map some) G' H' ∧ GoE as (backA as δ') (vs.map some) G H G' H' := by
  have l : vs.length = as.length := by have := R0.len; rw [List.length_map] at this; exact this
  have same : ∀ i, i < as.length → σ'[i]? = (vs.map some)[i]? := fun i hi => (g.par i hi).trans (st0_lt (by omega))
  have ow : ∀ i xs, Ow (backA as δ')[i]? xs → i < as.length ∧ (∃ ys, Ow as[i]? ys) ∧ Ow δ'[i]? xs := fun i xs h => by
    have key : ∀ s, (backA as δ')[i]? = some s → Ow (some s) xs → i < as.length ∧ (∃ ys, Ow as[i]? ys) ∧ δ'[i]? = some s ∨ i < as.length ∧ as[i]? = some s := fun s e o => by
      have li : i < as.length := by rw [← backA_len as δ']; exact lt_some e
      rcases backA_at as δ' i s e with z | ⟨z1, z2⟩
      · exact .inr ⟨li, z⟩
      · exact .inl ⟨li, z1, z2⟩
    have fin : ∀ s, (backA as δ')[i]? = some s → Ow (some s) xs → i < as.length ∧ (∃ ys, Ow as[i]? ys) ∧ Ow δ'[i]? xs := fun s e o => by
      rcases key s e o with ⟨h1, h2, h3⟩ | ⟨h1, h2⟩
      · exact ⟨h1, h2, by rw [h3]; exact o⟩
      · have oa : Ow as[i]? xs := by rw [h2]; exact o
        have ld : i < δ'.length := by
          have h3 := R'.len
          have h4 := g.len
          rw [← h3, h4]
          unfold st0
          rw [List.length_append, List.length_map]
          omega
        have e2 := backA_ow as δ' i xs δ'[i] oa (List.getElem?_eq_getElem ld)
        rw [e] at e2
        cases e2
        exact ⟨h1, ⟨xs, oa⟩, by rw [List.getElem?_eq_getElem ld]; exact o⟩
    rcases h with h | h
    · exact fin _ h (.inl rfl)
    · exact fin _ h (.inr rfl)
  have own : ∀ i a, OwnAt (backA as δ') (vs.map some) i a → i < as.length ∧ OwnAt δ' σ' i a := fun i a ⟨⟨xs, z⟩, e⟩ => by
    obtain ⟨h1, _, h3⟩ := ow i xs z
    exact ⟨h1, ⟨xs, h3⟩, by rw [same i h1]; exact e⟩
  refine ⟨⟨by rw [backA_len, List.length_map]; exact l, R'.sub, R'.ntb, R'.tab, fun i d h => ?_, fun i xs h => ?_, fun i j a o1 o2 => R'.sep i j a (own i a o1).2 (own j a o2).2⟩,
    ⟨⟨g.go.ex, fun b o q n t => g.go.keep b o q (fun ⟨i, z⟩ => n ⟨i, (fr0_own l z).2⟩) t, g.go.live, fun b o q => ?_, fun b ⟨i, z⟩ => ?_⟩, fun i xs h => (ow i xs h).2.1, fun i xs h => ?_, fun i a h => ?_⟩⟩
  · have li : i < as.length := by rw [← backA_len as δ']; exact lt_some h
    rcases backA_at as δ' i _ h with z | ⟨_, z⟩
    · obtain ⟨v, e1, e2⟩ := R0.val i d z
      exact ⟨v, e1, e2.mono g.go.ex⟩
    · obtain ⟨v, e1, e2⟩ := R'.val i d z
      rw [same i li] at e1
      exact ⟨v, e1, e2⟩
  · obtain ⟨h1, _, h3⟩ := ow i xs h
    obtain ⟨a, ws, e1, e2⟩ := R'.own i xs h3
    rw [same i h1] at e1
    exact ⟨a, ws, e1, e2⟩
  · rcases g.go.new b o q with z | z | ⟨i, z⟩
    · exact .inl z
    · exact .inr (.inl z)
    · exact .inr (.inr ⟨i, (fr0_own l z).2⟩)
  · rcases g.go.grow b ⟨i, (own i b z).2⟩ with ⟨j, z⟩ | z
    · exact .inl ⟨j, (fr0_own l z).2⟩
    · exact .inr z
  · have hi := lt_of_ow (.inr h : Ow as[i]? xs)
    have z := (g.lock i xs (by rw [fr0_lt hi]; exact h)).1
    exact backA_ow as δ' i xs _ (.inr h) z
  · have hi := lt_of_ow h.1.choose_spec
    rcases g.fate i a hi (fr0_own' l h) with ⟨xs, z⟩ | z
    · obtain ⟨ys, y⟩ := h.1
      rcases z with z | z
      · exact .inl ⟨xs, .inl (backA_ow as δ' i ys _ y z)⟩
      · exact .inl ⟨xs, .inr (backA_ow as δ' i ys _ y z)⟩
    · exact .inr z
end
end Mn

-- Mn20
set_option Elab.async false
set_option linter.all false
set_option maxRecDepth 100000
set_option maxHeartbeats 1000000
set_option autoImplicit false
namespace Mn
open PySem PySem.Spec L2 PyProof.Rows

/-! ## a def keeps its promise -/
/-- how the def's parameters are bound: by position, all of them; or all in one tuple -/
def BindOk (fd : FuncData) (star : Bool) (ps : List Str) (ks : List (List Str)) : Prop :=
  (star = false → ∀ (s : Shared) (us : List Value), us.length = ps.length → BindsTo s fd ⟨us, []⟩ (ps.zip us)) ∧
  (star = true → ∃ pv, ps = [pv] ∧ ∀ rest : List Value, bindArgs fd ⟨rest, []⟩ = (newTuple rest >>= fun t => pure [(pv, t)])) ∧
  (∀ k ∈ ks, star = false ∧ k.length = ps.length ∧ ∀ (s : Shared) (us : List Value), us.length = ps.length → BindsTo s fd ⟨[], k.zip us⟩ (ps.zip us))
/-- what stands written of the def x at a -/
structure DefOk (Ω : Wd) (x : Str) (a : Addr) (F : Fn) (N ps : List Str) (sc : Scope) (lm : Bool) (ks : List (List Str)) : Prop where
  S : FnScope N ps sc
  wf : wfSs Ω.Γ N ⟨sc, lm⟩ F.body = true
  ns : N.length = F.ns
  np : ps.length = F.np
  ex : ∃ (params : Arguments) (dV kV doc pm cdv ct oc : Value) (an od : Option Addr) (osl : Array (Option Value)),
    Ω.K.lookup a = some ⟨oc, od, .func (PySem.W.fnOf x x params (upSs Ω.Γ N F.body) sc dV kV doc pm an cdv ct), osl⟩ ∧ PySem.W.codeIn Ω.K cdv x = true ∧ BindOk (PySem.W.fnOf x x params (upSs Ω.Γ N F.body) sc dV kV doc pm an cdv ct) F.star ps ks ∧
    (lm = true → ∃ c P, cdv = .ref c ∧ LamX.TabB Ω.base Ω.mg c P ∧ (P, x ++ ".<locals>." ++ "<lambda>") ∈ Ω.T ∧ ∀ p ∈ Ω.T, p.1 = P → p.2 = x ++ ".<locals>." ++ "<lambda>")
section
variable {Ω : Wd} {fns : List (Option Fn)} {tf : EO → Option EO} {gd : List D} {tsp : (XK → TE) → TE} {k : Nat}
/-- the promise of a def, its calls being k deep -/
abbrev spR (Ω : Wd) (fns : List (Option Fn)) (tf : EO → Option EO) (gd : List D) (k f : Nat) : Sp := SpF Ω (run fns tf gd k f)
theorem post_of {as : List Sl} {vs : List V} {G H : Hp} {Q : VK} {E : XK} {o : SO} {co : CO} {m : Nat} (R0 : Rel Ω.K Ω.T as (vs.map some) G H) (e : endF as (some o) = some co) (post : PostF Ω as vs G H Q E co) :
    PostS Ω as.length (fun cls d _ H => E cls d H) (st0 vs m) (fr0 as m) G H { nx := fun _ H' => Q .non H', rt := Q } o := by
  cases o with
  | nx δ' =>
    cases e
    intro σ' G' H' R' g
    obtain ⟨R1, g1⟩ := back_ok R0 R' g
    exact post _ _ _ R1 g1 .non
  | rt r δ' =>
    cases e
    cases r with
    | val d =>
      intro v σ' G' H' R' g dn
      obtain ⟨R1, g1⟩ := back_ok R0 R' g
      exact post _ _ _ R1 g1 dn
    | new xs =>
      intro a ws σ' G' H' R' g h1 h2 h3 h4
      obtain ⟨R1, g1⟩ := back_ok R0 R' g
      have l : vs.length = as.length := by have := R0.len; rw [List.length_map] at this; exact this
      refine post _ _ _ R1 g1 ⟨a, ws, rfl, h1, h2, ?_, h3⟩
      rcases h4 with ⟨j, hj, z⟩ | z
      · have := (fr0_own l z).1
        omega
      · exact z
  | ex c d δ' =>
    cases e
    intro v x σ' G' H' R' g hx dn
    obtain ⟨R1, g1⟩ := back_ok R0 R' g
    exact post _ _ _ _ R1 g1 hx dn
theorem good_def {x : Str} {a : Addr} {N ps : List Str} {sc : Scope} {lm : Bool} {cdv : Value} {A : Around} {outer : List Env} {s : Shared} {H : Hp} {E : XK} {lv : Nat} (S : FnScope N ps sc)
    (hl : lm = true → ∃ c P, cdv = .ref c ∧ LamX.TabB Ω.base Ω.mg c P ∧ (P, x ++ ".<locals>." ++ "<lambda>") ∈ Ω.T ∧ ∀ p ∈ Ω.T, p.1 = P → p.2 = x ++ ".<locals>." ++ "<lambda>")
    (hr : Room (lv + 2) (A.deeper (envOfC x sc s.heap.objs.size a cdv))) (hg : A.guards = some []) : Good Ω N ⟨sc, lm⟩ lv (cxOf (L2.CX Ω.P Ω.w) Ω.P Ω.w Ω.K Ω.mg Ω.base N x sc a cdv A outer s H E) :=
  ⟨rfl, rfl, rfl, rfl, rfl, rfl, S.nd, rfl, fun z => by
    obtain ⟨c, P, e, h1, h2, h3⟩ := hl z
    exact ⟨hr, c, P, e, h1, h2, h3⟩, rfl, hr.mono (by omega), hg, passes_of (X := cxOf (L2.CX Ω.P Ω.w) Ω.P Ω.w Ω.K Ω.mg Ω.base N x sc a cdv A outer s H E) rfl⟩
variable {f : Nat} {x : Str} {a : Addr} {F : Fn} {N ps : List Str} {sc : Scope} {lm : Bool} {ks : List (List Str)}
theorem fn_any (D : DefOk Ω x a F N ps sc lm ks) (hf : fns[f]? = some (some F)) (hs : F.star = false) (fx : Facts Ω (spR Ω fns tf gd k) (3 * k)) (tl : TellOk Ω N (3 * k) tsp) (ra : RaiOk Ω (3 * k)) (ok : EvOk Ω (run fns tf gd k) tf gd (spR Ω fns tf gd k) tsp F.ns) {mk : List Value → Args}
    (hb : ∀ (fd : FuncData), BindOk fd F.star ps ks → ∀ (s : Shared) (us : List Value), us.length = ps.length → BindsTo s fd (mk us) (ps.zip us)) : FnGA Ω (3 * (k + 1)) a mk (spR Ω fns tf gd (k + 1) f) := by
  intro A outer s H us vs Q E hr hg e0 r h
  obtain ⟨as, G, co, er, R0, post⟩ := h
  obtain ⟨params, dV, kV, doc, pm, cdv, ct, oc, an, od, osl, lk, hcd, bo, hl⟩ := D.ex
  have l : vs.length = as.length := by have := R0.len; rw [List.length_map] at this; exact this
  unfold run at er
  rw [hf] at er
  simp only [hs] at er
  rw [if_neg (by decide)] at er
  split at er
  · rename_i hn
    have lps : vs.length = ps.length := by rw [l, hn, D.np]
    refine LamX.run_ofS (k := 3 * k + 2) (N := N) (ps := ps) (us := us) (vs := vs) lk hcd D.S hr e0 (hb _ bo s us (by rw [← r.length]; exact lps)) r lps fun hr' => ?_
    have g := good_def (E := E) (outer := outer) (H := H) D.S hl hr' hg
    refine ⟨_, psSs fx tl ra F.body ⟨sc, lm⟩ D.S.kind D.wf _ (fun cls d _ H => E cls d H) g ⟨fun _ => rfl, hr'.mono (by omega)⟩ (takes_of rfl rfl rfl rfl), ?_⟩
    cases eo : evSs (run fns tf gd k) tf gd (F.np, F.ns) F.body (as ++ List.replicate (F.ns - F.np) .un) with
    | none => rw [eo] at er; cases er
    | some o =>
      rw [eo] at er
      have es : L2.start N vs = st0 vs (F.ns - F.np) := by
        unfold L2.start st0
        rw [D.ns, l, hn]
      rw [es]
      have hle : ps.length ≤ N.length := by
        have := D.S.pre
        rw [← this, List.length_take]
        omega
      have hlen : (st0 vs (F.ns - F.np)).length = F.ns := by
        unfold st0
        rw [List.length_append, List.length_map, List.length_replicate, l, hn, ← D.np, ← D.ns]
        omega
      have z := ssSs ok F.body (fun cls d _ H => E cls d H) _ _ eo (st0 vs (F.ns - F.np)) G H { nx := fun _ H' => Q .non H', rt := Q } hlen (fr0_rel R0)
      have hn' : as.length = (F.np, F.ns).1 := hn
      rw [← hn'] at z
      exact z (post_of R0 er post)
  · cases er
theorem vals_den {K : PySem.W.Frag} {T : List (Addr × Str)} {G H : Hp} : ∀ {as : List Sl} {vs : List V} {ds : List Mn.D}, (∀ (i : Nat) (d : Mn.D), as[i]? = some (.val d) → ∃ v, (vs.map some)[i]? = some (some v) ∧ Den K G v d) → vs.length = as.length → vals as = some ds → DenL K G vs ds
  | [], [], ds, _, _, e => by cases e; exact .nil
  | [], v :: vs, ds, _, l, _ => by simp at l
  | s :: as, [], ds, _, l, _ => by simp at l
  | s :: as, v :: vs, ds, h, l, e => by
    cases s <;> simp only [vals] at e <;> first | (cases e; done) | skip
    rename_i d
    obtain ⟨ms, q1, q2⟩ := Option.map_eq_some_iff.mp e
    subst q2
    obtain ⟨v', e1, e2⟩ := h 0 d rfl
    simp at e1
    subst e1
    exact .cons e2 (vals_den (T := T) (H := H) (fun i d z => by simpa using h (i + 1) d (by simpa using z)) (by simpa using l) q1)
theorem vals_no {as : List Sl} {ds : List Mn.D} (e : vals as = some ds) : ∀ (i : Nat) (s : Sl), as[i]? = some s → ∃ d, s = .val d := by
  induction as generalizing ds with
  | nil => intro i s h; simp at h
  | cons a as ih =>
    intro i s h
    cases a <;> simp only [vals] at e <;> first | (cases e; done) | skip
    rename_i d
    obtain ⟨ms, q1, q2⟩ := Option.map_eq_some_iff.mp e
    cases i with
    | zero => simp at h; exact ⟨d, h.symm⟩
    | succ i => exact ih q1 i s (by simpa using h)
theorem star_back {K : PySem.W.Frag} {T : List (Addr × Str)} {as δ' : List Sl} {vs : List V} {σ' : L2.St} {G H G' H' : Hp} {m : Nat} {p : Addr} {ds : List Mn.D} (R0 : Rel K T as (vs.map some) G H) (hp : H p = none) (ev : vals as = some ds) (R' : Rel K T δ' σ' G' H')
    (g : GoS 1 (fr0 [.val (.tup ds)] m) δ' (st0 [.ref p] m) σ' (upd G p (.tup vs)) (upd H p (.tup vs)) G' H') : Rel K T as (vs.map some) G' H' ∧ GoE as as (vs.map some) G H G' H' := by
  have sG := same_new2 (o := .tup vs) (R0.gfree hp)
  have sH := same_new2 (o := .tup vs) hp
  have no0 : ∀ b, ¬ Own (fr0 [.val (.tup ds)] m) (st0 [.ref p] m) b := fun b ⟨i, o⟩ => by
    obtain ⟨_, ⟨xs, z⟩, _⟩ := fr0_own (vs := [.ref p]) (as := [.val (.tup ds)]) rfl o
    cases i with
    | zero => rcases z with z | z <;> simp at z
    | succ i => rcases z with z | z <;> simp at z
  have noA : ∀ (i : Nat) (xs : List Mn.D), ¬ Ow as[i]? xs := fun i xs z => by
    rcases z with z | z
    · obtain ⟨d, q⟩ := vals_no ev i _ z
      cases q
    · obtain ⟨d, q⟩ := vals_no ev i _ z
      cases q
  refine ⟨⟨R0.len, R'.sub, R'.ntb, R'.tab, fun i d h => ?_, fun i xs h => absurd h (noA i xs), fun i j b ⟨⟨xs, z⟩, _⟩ _ => absurd z (noA i xs)⟩,
    ⟨⟨sG.trans g.go.ex, fun b o q n t => g.go.keep b o (sH _ _ q) (no0 b) t, fun b o q => g.go.live b o (sH _ _ q), fun b o q => ?_, fun b ⟨i, ⟨xs, z⟩, _⟩ => absurd z (noA i xs)⟩, fun i xs h => absurd h (noA i xs), fun i xs h => absurd (.inr h) (noA i xs), fun i b ⟨⟨xs, z⟩, _⟩ => absurd z (noA i xs)⟩⟩
  · obtain ⟨v, e1, e2⟩ := R0.val i d h
    exact ⟨v, e1, e2.mono (sG.trans g.go.ex)⟩
  · rcases g.go.new b o q with z | z | z
    · by_cases hb : b = p
      · rw [hb]
        exact .inr (.inl hp)
      · rw [upd_ne hb] at z
        exact .inl z
    · by_cases hb : b = p
      · rw [hb, upd_same] at z
        cases z
      · rw [upd_ne hb] at z
        exact .inr (.inl z)
    · exact absurd z (no0 b)
theorem post_star {as : List Sl} {vs : List V} {G H : Hp} {Q : VK} {E : XK} {o : SO} {co : CO} {m : Nat} {p : Addr} {ds : List Mn.D} (R0 : Rel Ω.K Ω.T as (vs.map some) G H) (hp : H p = none) (ev : vals as = some ds)
    (e : (match (some o : Option SO) with | some (.nx _) => some (CO.ret (.val .non) as) | some (.rt r _) => some (.ret r as) | some (.ex c d _) => some (.exc c d as) | none => none) = some co) (post : PostF Ω as vs G H Q E co) :
    PostS Ω 1 (fun cls d _ H => E cls d H) (st0 [.ref p] m) (fr0 [.val (.tup ds)] m) (upd G p (.tup vs)) (upd H p (.tup vs)) { nx := fun _ H' => Q .non H', rt := Q } o := by
  cases o with
  | nx δ' =>
    cases e
    intro σ' G' H' R' g
    obtain ⟨R1, g1⟩ := star_back R0 hp ev R' g
    exact post _ _ _ R1 g1 .non
  | rt r δ' =>
    cases e
    cases r with
    | val d =>
      intro v σ' G' H' R' g dn
      obtain ⟨R1, g1⟩ := star_back R0 hp ev R' g
      exact post _ _ _ R1 g1 dn
    | new xs =>
      intro a ws σ' G' H' R' g h1 h2 h3 h4
      obtain ⟨R1, g1⟩ := star_back R0 hp ev R' g
      refine post _ _ _ R1 g1 ⟨a, ws, rfl, h1, h2, ?_, h3⟩
      rcases h4 with ⟨j, hj, z⟩ | z
      · have := (fr0_own (vs := [.ref p]) (as := [.val (.tup ds)]) rfl z).1
        simp at this
        omega
      · by_cases hb : a = p
        · rw [hb]; exact hp
        · rw [upd_ne hb] at z
          exact z
  | ex c d δ' =>
    cases e
    intro v x σ' G' H' R' g hx dn
    obtain ⟨R1, g1⟩ := star_back R0 hp ev R' g
    exact post _ _ _ _ R1 g1 hx dn
theorem fn_star (D : DefOk Ω x a F N ps sc lm ks) (hf : fns[f]? = some (some F)) (hs : F.star = true) (fx : Facts Ω (spR Ω fns tf gd k) (3 * k)) (tl : TellOk Ω N (3 * k) tsp) (ra : RaiOk Ω (3 * k)) (ok : EvOk Ω (run fns tf gd k) tf gd (spR Ω fns tf gd k) tsp F.ns) : FnG Ω (3 * (k + 1)) a (spR Ω fns tf gd (k + 1) f) := by
  intro A outer s H us vs Q E hr hg e0 r h
  obtain ⟨as, G, co, er, R0, post⟩ := h
  obtain ⟨params, dV, kV, doc, pm, cdv, ct, oc, an, od, osl, lk, hcd, bo, hl⟩ := D.ex
  have l : vs.length = as.length := by have := R0.len; rw [List.length_map] at this; exact this
  obtain ⟨pv, rfl, hbind⟩ := bo.2.1 hs
  unfold run at er
  rw [hf] at er
  simp only [hs] at er
  rw [if_pos True.intro] at er
  split at er
  · rename_i ds ev
    split at er
    · rename_i hz
      have dn : DenL Ω.K G vs ds := vals_den (T := Ω.T) (H := H) R0.val l ev
      have hzv : vs.length ≤ sizeLine := by rw [dn.length]; exact le_big hz
      have hn : H s.heap.objs.size = none := e0.hok.fresh (Nat.le_refl _)
      have hl2 : us.length ≤ sizeLine := by rw [← r.length]; exact hzv
      refine StX.run_bnd (k := 3 * k + 2) lk hcd D.S hr e0 (G := fun xs H2 => ∃ p, H p = none ∧ xs = [V.ref p] ∧ H2 = upd H p (.tup vs)) (fun A' Ex Q' h => ?_) fun s2 H2 xs ⟨p, hp, ex, eH⟩ hr' => ?_
      · rw [hbind us]
        refine wpAny_bind (wpAny_newTuple (wpAny_pure ?_) hl2)
        have new : ObjOk Ω.P Ω.w (upd H s.heap.objs.size (.tup vs)) (s.heap.push ({ cls := .type "tuple", data := .seq us.toArray } : Obj)) s.heap.objs.size (.tup vs) := ⟨hzv, us, r, ⟨_, Heap.get?_push_size _ rfl, rfl, _, rfl⟩⟩
        have un := StX.un_laid (fs := frs outer) (s := s) (o := ({ cls := .type "tuple", data := .seq us.toArray } : Obj)) (u := .tup vs) hn
        exact h _ _ [V.ref s.heap.objs.size] [Value.ref s.heap.objs.size] (StX.env0_laid e0 new) un rfl (fun e s' => StX.cxUp outer s H _ _ E e s' un (fun b o q => Heap.get?_push_of_some _ q) rfl) (.cons rfl .nil) rfl ⟨_, hn, rfl, rfl⟩
      · subst ex eH
        have g := good_def (E := E) (outer := outer) (H := upd H p (.tup vs)) D.S hl hr' hg
        refine ⟨_, psSs fx tl ra F.body ⟨sc, lm⟩ D.S.kind D.wf _ (fun cls d _ H => E cls d H) g ⟨fun _ => rfl, hr'.mono (by omega)⟩ (takes_of rfl rfl rfl rfl), ?_⟩
        cases eo : evSs (run fns tf gd k) tf gd (F.np, F.ns) F.body (.val (.tup ds) :: List.replicate (F.ns - 1) .un) with
        | none => rw [eo] at er; cases er
        | some o =>
          rw [eo] at er
          have hnp : F.np = 1 := D.np.symm
          have es : L2.start N [V.ref p] = st0 [V.ref p] (F.ns - 1) := by
            unfold L2.start st0
            rw [D.ns] <;> rfl
          rw [es]
          have hle : 1 ≤ F.ns := by
            have := D.S.pre
            have h2 := congrArg List.length this
            rw [List.length_take, D.ns] at h2
            simp only [List.length_cons, List.length_nil] at h2
            omega
          have hlen : (st0 [V.ref p] (F.ns - 1)).length = F.ns := by
            unfold st0
            rw [List.length_append, List.length_map, List.length_replicate]
            simp only [List.length_cons, List.length_nil]
            omega
          have Rl := R0.laidG (o := .tup vs) hp (fun ps z => by cases z)
          have R1 : Rel Ω.K Ω.T [.val (.tup ds)] ([V.ref p].map some) (upd G p (.tup vs)) (upd H p (.tup vs)) := by
            refine ⟨rfl, Rl.sub, Rl.ntb, Rl.tab, fun i d h => ?_, fun i xs h => ?_, fun i j b ⟨⟨xs, h⟩, _⟩ _ => ?_⟩
            · cases i with
              | zero =>
                simp at h
                subst h
                exact ⟨_, rfl, .tup (.inl (.inl upd_same)) (dn.mono (same_new2 (R0.gfree hp)))⟩
              | succ i => simp at h
            · cases i with
              | zero => rcases h with h | h <;> simp at h
              | succ i => rcases h with h | h <;> simp at h
            · cases i with
              | zero => rcases h with h | h <;> simp at h
              | succ i => rcases h with h | h <;> simp at h
          have z := ssSs ok F.body (fun cls d _ H => E cls d H) _ _ eo (st0 [V.ref p] (F.ns - 1)) _ _ { nx := fun _ H' => Q .non H', rt := Q } hlen (fr0_rel R1)
          have hn' : (F.np, F.ns).1 = 1 := hnp
          rw [hn'] at z
          exact z (post_star R0 hp ev er post)
    · cases er
  · cases er
/-- what a law's text must give -/
structure Law (Ω : Wd) (fns : List (Option Fn)) (tf : EO → Option EO) (gd : List Mn.D) (tsp : (XK → TE) → TE) : Prop where
  gls : ∀ g, g < Ω.Γ.gls.length → ∃ u, Ω.mg (gname Ω.Γ.gls g) = some u ∧ RelV (Ω.gv g) u
  bis : ∀ b : Bi, Ω.mg b.nm = none
  isi : Ω.mg "isinstance" = none
  rng : Ω.mg "range" = none
  set : Ω.mg "set" = none
  sys : ∃ o, Ω.base.get? sysModules = some o ∧ o.cls ≠ .type "list"
  tys : ∀ t : String, bootBuiltins (Str.ofString t) = some (.type t) → Ω.mg (Str.ofString t) = none
  nms : ∀ f, f < Ω.Γ.fns.length → Ω.mg (gname Ω.Γ.fns f) = some (.ref (Ω.fa f)) ∧ PySem.W.keepIn Ω.K (.ref (Ω.fa f)) = true
  dfs : ∀ f F, fns[f]? = some (some F) → ∃ N ps sc lm, DefOk Ω (gname Ω.Γ.fns f) (Ω.fa f) F N ps sc lm ((Ω.Γ.kws.filter fun p => p.1 == f).map (·.2))
  tl : ∀ N lv, TellOk Ω N lv tsp
  ra : ∀ lv, RaiOk Ω lv
  gl : ∀ (g : Nat) (d : Mn.D), gd[g]? = some d → ∀ G, Den Ω.K G (Ω.gv g) d
  td : ∀ (n : Nat) (t : XK → TE) (W : WX) (δ : List Sl) (o o' : EO), (∀ E : XK, SE Ω (t E) (fun c d _ H => E c d H) n δ o) → tf o = some o' → SE Ω (tsp t) W n δ o'
theorem Law.facts (L : Law Ω fns tf gd tsp) : ∀ k, Facts Ω (spR Ω fns tf gd k) (3 * k)
  | 0 => ⟨L.gls, L.bis, L.isi, L.rng, L.set, L.sys, L.tys, fun f hf => ⟨(L.nms f hf).1, (L.nms f hf).2, fun A outer s H us vs Q E _ _ _ _ ⟨as, G, co, er, _⟩ => by unfold run at er; cases er⟩,
      fun p hp A outer s H us vs Q E _ _ _ _ ⟨as, G, co, er, _⟩ => by unfold run at er; cases er⟩
  | k + 1 => by
    have fx := L.facts k
    have none_of : ∀ f (mk : List Value → Args), (∀ F, fns[f]? ≠ some (some F)) → FnGA Ω (3 * (k + 1)) (Ω.fa f) mk (spR Ω fns tf gd (k + 1) f) := fun f mk hn A outer s H us vs Q E _ _ _ _ ⟨as, G, co, er, _⟩ => by
      unfold run at er
      split at er
      · rename_i F hF
        exact absurd hF (hn F)
      · cases er
    refine ⟨L.gls, L.bis, L.isi, L.rng, L.set, L.sys, L.tys, fun f hf => ⟨(L.nms f hf).1, (L.nms f hf).2, ?_⟩, fun p hp => ?_⟩
    · by_cases h : ∃ F, fns[f]? = some (some F)
      · obtain ⟨F, hF⟩ := h
        obtain ⟨N, ps, sc, lm, D⟩ := L.dfs f F hF
        cases hs : F.star with
        | false => exact fn_any D hF hs fx (L.tl _ _) (L.ra _) ⟨fun _ => rfl, L.gl, L.td _⟩ fun fd b s us hl => b.1 hs s us hl
        | true => exact fn_star D hF hs fx (L.tl _ _) (L.ra _) ⟨fun _ => rfl, L.gl, L.td _⟩
      · exact none_of f _ fun F z => h ⟨F, z⟩
    · by_cases h : ∃ F, fns[p.1]? = some (some F)
      · obtain ⟨F, hF⟩ := h
        obtain ⟨N, ps, sc, lm, D⟩ := L.dfs p.1 F hF
        have hm : p.2 ∈ (Ω.Γ.kws.filter fun q => q.1 == p.1).map (·.2) := List.mem_map.mpr ⟨p, List.mem_filter.mpr ⟨hp, by simp⟩, rfl⟩
        have hs : F.star = false := by
          obtain ⟨_, _, _, _, _, _, _, _, _, _, _, _, _, bo, _⟩ := D.ex
          exact (bo.2.2 _ hm).1
        exact fn_any D hF hs fx (L.tl _ _) (L.ra _) ⟨fun _ => rfl, L.gl, L.td _⟩ fun fd b s us hl => (b.2.2 _ hm).2.2 s us hl
      · exact none_of p.1 _ fun F z => h ⟨F, z⟩
end
end Mn

-- Mn21
set_option Elab.async false
set_option linter.all false
set_option maxRecDepth 100000
set_option maxHeartbeats 2000000
set_option autoImplicit false
namespace Mn
open PySem PySem.Spec L2 PyProof.Rows

/-! ## try, several clauses 'except x as n' -/
abbrev Cl := Value × (Addr → Value → Option Addr → TS)
/-- what the clauses wish: slot i is n's -/
def wMas (K : PySem.W.Frag) (i : Nat) (Wout : WX) (D : Ends) : List Cl → WX
  | [] => Wout
  | (c, ts) :: r => fun cls d σ H => ∃ b, PySem.W.exmOne K cls c = some b ∧
      (b = true → ∀ a, H a = none → ts a cls d { nx := fun σ' H' => D.nx (σ'.set i none) H', rt := D.rt, bk := fun σ' H' => D.bk (σ'.set i none) H', ct := fun σ' H' => D.ct (σ'.set i none) H' } (σ.set i (some (.ref a))) H) ∧ (b = false → wMas K i Wout D r cls d σ H)
inductive HdsA (X : Cx) (n : Str) : List ExceptHandler → List Cl → Prop
  | nil : HdsA X n [] []
  | cons {x : Str} {c : Value} {ts : Addr → Value → Option Addr → TS} {b₀ : Stmt} {suite : List Stmt} {np pos' : Pos} {hds : List ExceptHandler} {l : List Cl} (hc : Names X x c)
      (hsu : ∀ (a : Addr) (oe : Obj) (cls : Value) (d : Option Addr) (pn : List (Addr × Obj)), Zc cls d oe → (∃ vs, oe.data = .fields vs) → PSs (X.suite a ((a, oe) :: pn)) (b₀ :: suite) (ts a cls d)) (r : HdsA X n hds l) :
      HdsA X n (.ExceptHandler (some (.Name x np)) (some n) (b₀ :: suite) pos' :: hds) ((c, ts) :: l)
section
variable {X : Cx} {body : List Stmt} {h₀ : ExceptHandler} {hds : List ExceptHandler} {l : List Cl} {pos : Pos} {tb : WX → TS} {Wout : WX} {i : Nat} {n : Str}
theorem ps_try_mas (hs : X.stack = X.env :: X.outer) (hf : X.env.frame = some X.env.locals) (hN : X.N.Nodup) (hi : X.N[i]? = some n) (hln : X.env.kindOf n = some .local) (tk : Takes X Wout)
    (hb : ∀ (W : WX) (pn : List (Addr × Obj)) (xe : Value → Shared → Prop), Takes (X.tr pn xe) W → PassesOwn (model X.prog X.w) X.A X.env xe → PSs (X.tr pn xe) body (tb W))
    (hh : HdsA X n (h₀ :: hds) l) : PS X (.Try body (h₀ :: hds) [] [] pos) (fun D σ H => tb (wMas X.K i Wout D l) D σ H) := by
  refine ⟨fun pins s σ H D I h => ?_⟩
  have ok := I.ok
  have hfr : X.A.frames = some (X.env :: X.outer) := by rw [ok.frames, hs]
  refine wpAny_Try_except ?_
  refine wpAny_mono ((hb (wMas X.K i Wout D l) (X.pn ++ pins) (fun e s₁ => wpAny (model X.prog X.w) X.A (noteFrame e X.env) (fun _ s₂ => wpAny (model X.prog X.w) X.A (setFlight e none) (fun _ s₃ =>
    wpAny (model X.prog X.w) X.A (handleBy e X.env (h₀ :: hds)) (SP X pins D) X.xe s₃) X.xe s₂) X.xe s₁) (fun u s' xx => ?_) PassesOwn.looking).run [] s σ H D (I.toTry _) h) (fun f s1 hsp => ?_) (fun e s1 he => he)
  · obtain ⟨a, B, sI, pins', σ', H', cls, d, rfl, J', nb, up, sky, na, os, ag, w⟩ := xx
    have J : L2.Inv X pins σ' H' sI := J'.ofTry ok
    have sky' : Sky B (X.env :: X.outer) a (Zc cls d) X.env.locals s'.heap := by rw [← hs]; exact sky
    show wpAny (model X.prog X.w) X.A (noteFrame (.ref a) X.env) _ _ _
    refine Sky.land Zc.steady hfr hf sky' fun h3 fl3 up3 => ?_
    have J3 : L2.Inv X pins σ' H' { s' with heap := h3 } := J.landed nb fl3.1 (up.trans up3) os ag
    obtain ⟨oe3, vs3, he3, hz3, hd3⟩ := fl3.there
    have nfr : a ∉ frs (X.env :: X.outer) := fun hm => by
      obtain ⟨_, o', e', hnf⟩ := fl3.2.2.1.mem hm
      rw [he3] at e'
      cases e'
      exact hnf _ hd3
    have nL : a ≠ X.env.locals := fun z => nfr (List.mem_filterMap.mpr ⟨X.env, List.mem_cons_self, by rw [hf, z]⟩)
    have nF : a ∉ X.fs := fun hm => by
      obtain ⟨e, he, q⟩ := List.mem_filterMap.mp hm
      exact nfr (List.mem_filterMap.mpr ⟨e, List.mem_cons_of_mem _ he, q⟩)
    have S3 := J3.suite he3 hd3 na nL nF
    have go : ∀ {hds' : List ExceptHandler} {l' : List Cl}, HdsA X n hds' l' → wMas X.K i Wout D l' cls d σ' H' → wpAny (model X.prog X.w) X.A (handleBy (.ref a) X.env hds') (SP X pins D) X.xe { s' with heap := h3 } := by
      intro hds' l' hk
      induction hk with
      | nil =>
        intro w
        refine wpAny_handleBy_nil ?_
        obtain ⟨k1, k2, k3, oe, vs, T, oT, ts', he, hz, hd, h1, hr⟩ := id fl3
        unfold PySem.passOn
        refine wpAny_bind (wpAny_field he hd h1 ?_)
        rw [if_neg (show ¬ ((Value.ref T == Value.none) = true) from by simp)]
        have fin : wpAny (model X.prog X.w) X.A (setFlight (.ref a) X.env.frame) (fun _ s4 => wpAny (model X.prog X.w) X.A (throw (.ref a) : Sem Flow) (SP X pins D) X.xe s4) X.xe { s' with heap := h3 } := by
          rw [hf]
          refine HandSPX.setFlight_upZ fl3 fun h4 hh4 up4 => wpAny_throw (tk _ _ ?_)
          exact ⟨a, B, sI, pins, σ', H', cls, d, rfl, J, nb, (up.trans up3).trans up4, .inr (.inr (by rw [hs]; exact hh4)), na, os, ag, w⟩
        first
          | exact wpAny_bind (wpAny_pure (wpAny_bind fin))
          | exact wpAny_bind fin
      | @cons x c ts b₀ suite np pos' hds2 l2 hc hsu r ih =>
        intro w
        obtain ⟨b, hb1, hyes, hno⟩ := w
        refine wpAny_handleBy_cons (codeAny_handlers_test ?_) (by intro q; cases q)
        have LT : PySem.W.Looks (model X.prog X.w) h3 (typeOf (.ref a)) cls := fun A Q E s k q => wpAny_typeOf_ref (k _ _ he3) (by rw [hz3.1]; exact q)
        have LM := PySem.W.exm_one (M := model X.prog X.w) (J3.kIn) LT hb1
        have test : ∀ {Q : Value → Shared → Prop} {E : Value → Shared → Prop}, Q c { s' with heap := h3 } → wpAny (model X.prog X.w) (X.A.mark (some (.ref a))) (eval (.Name x np) X.env) Q E { s' with heap := h3 } := fun {Q E} q => by
          obtain ⟨hg, hdbg, hm | ⟨hm, hv, hnn⟩⟩ := hc
          · exact ld_glob (X := X.suite a ((a, oe3) :: (X.pn ++ pins))) S3 hg hm q hdbg
          · exact ld_blt (X := X.suite a ((a, oe3) :: (X.pn ++ pins))) S3 hg hm hv q hnn hdbg
        refine test (LM.here ?_)
        cases b with
        | true =>
          refine codeAny_handlers_suite_as ?_
          refine HandSPX.lands_againZ fl3 fun h4 fl4 up4 => ?_
          have J4 : L2.Inv X pins σ' H' { s' with heap := h4 } := J.landed nb fl4.1 ((up.trans up3).trans up4) os ag
          obtain ⟨oe4, vs4, he4, hz4, hd4⟩ := fl4.there
          have S4 := J4.suite he4 hd4 na nL nF
          refine store_ok (X := X.suite a ((a, oe4) :: (X.pn ++ pins))) (v := .ref a) S4 hN hi (.inl hln) rfl (fun s5 S5 => ?_) (.inr hln)
          refine wpAny_mono ((hsu a oe4 cls d (X.pn ++ pins) hz4 ⟨_, hd4⟩).run [] s5 _ H' _ S5 (hyes rfl a na)) (fun f s6 hsp => ?_) (fun _ _ z => False.elim z)
          have last : ∀ {σ6 : L2.St} {H6 : Hp} {Q : Shared → Prop}, L2.Inv (X.suite a ((a, oe4) :: (X.pn ++ pins))) [] σ6 H6 s6 → (∀ s7, L2.Inv X pins (σ6.set i none) H6 s7 → Q s7) →
              wpAny (model X.prog X.w) X.A (do bindName X.env n .none; unbindBehindTheSuite X.env n pos') (fun _ s7 => Q s7) X.xe s6 := fun {σ6 H6 Q} S6 hq => gone_ok (S6.unsuite ok) hN hi hln hq
          cases f with
          | next =>
            obtain ⟨σ6, H6, S6, q6⟩ := hsp
            exact last S6 fun s7 J7 => ⟨_, _, J7, q6⟩
          | brk =>
            obtain ⟨σ6, H6, S6, q6⟩ := hsp
            exact last S6 fun s7 J7 => ⟨_, _, J7, q6⟩
          | cont =>
            obtain ⟨σ6, H6, S6, q6⟩ := hsp
            exact last S6 fun s7 J7 => ⟨_, _, J7, q6⟩
          | ret u =>
            obtain ⟨v6, σ6, H6, S6, r6, q6⟩ := hsp
            exact last S6 fun s7 J7 => ⟨_, _, _, J7, r6, q6⟩
        | false =>
          show wpAny _ X.A (handleBy (.ref a) X.env hds2) _ _ _
          exact ih (hno rfl)
    exact go hh w
  · cases f with
    | next =>
      obtain ⟨σ', H', J', q⟩ := hsp
      exact wpAny_execs_nil ⟨σ', H', J'.ofTry ok, q⟩
    | brk =>
      obtain ⟨σ', H', J', q⟩ := hsp
      exact ⟨σ', H', J'.ofTry ok, q⟩
    | cont =>
      obtain ⟨σ', H', J', q⟩ := hsp
      exact ⟨σ', H', J'.ofTry ok, q⟩
    | ret u =>
      obtain ⟨v, σ', H', J', r, q⟩ := hsp
      exact ⟨v, σ', H', J'.ofTry ok, r, q⟩
end

/-! ## the errors of the text -/
/-- isinstance(e, c), e the error that the suite holds, d its dict -/
def rIsD (K : PySem.W.Frag) (C a d : Addr) : List V → Hp → VK → Prop := fun xs H Q => ∃ (c : V) (cv : Value) (b : Bool) (fs : List (Str × V)), xs = [.ref a, c] ∧ (∀ u, RelV c u → u = cv) ∧ PySem.W.kitOne K (.ref C) cv = some b ∧ H d = some (.xd fs) ∧ Q (.bl b) H
theorem call_isD {X : Cx} {a C d : Addr} {oe : Obj} {pn : List (Addr × Obj)} (T : ExcC X.K C) (hz : Zc (.ref C) (some d) oe) (hf : ∃ vs, oe.data = .fields vs) : CallR (X.suite a ((a, oe) :: pn)) (.builtin "isinstance") (rIsD X.K C a d) := by
  intro pins s σ H xs us Q I r h
  obtain ⟨c, cv, b, fs, rfl, hcv, e, hd, q⟩ := h
  cases r with
  | cons rx rr =>
    cases rr with
    | cons rt rr =>
      cases rr
      cases rx
      have ec := hcv _ rt
      subst ec
      obtain ⟨hget, _⟩ := I.pin (a, oe) (List.mem_append.mpr (.inl List.mem_cons_self))
      obtain ⟨vs, hv⟩ := hf
      have hx : ObjOk X.prog X.w H s.heap d (.xd fs) := I.hok d _ hd
      obtain ⟨mA, hns, _⟩ := hx
      obtain ⟨od, ho, _⟩ := lookIn_ns hns
      have J : PySem.W.InstAt s.heap a oe C (some od) := ⟨hget, hz.1, by unfold PySem.W.notCls; rw [hv] <;> rfl, by rw [hz.2]; exact ho⟩
      obtain ⟨cd, hcd, _⟩ := PySem.W.any_some T.hd
      exact PySem.W.kia_one (PySem.W.kitx_exc (by rw [hcd]; rfl) T.hg T.hk T.hs T.ha T.hn T.ht T.hm) I.kIn J e (fun z => nomatch z) fun tk => ⟨.bl b, H, I.kept (t' := tk) fun _ _ z => z, rfl, q⟩
/-- __init__(self, value): self.value = value -/
def spIni (K : PySem.W.Frag) : Sp := fun vs H Q _ => ∃ (a C : Addr) (v : V), vs = [.ref a, v] ∧ OexC K C ∧ PySem.W.findIn K (.ref C) "value" = some none ∧ H a = some (exo a C none) ∧ ∀ dx, H dx = none → dx ≠ a → Q .non (upd (upd H dx (exd dx [("value", v)])) a (exo a C (some dx)))
/-- what stands written of the errors' __init__ at fI -/
structure IniOk (Ω : Wd) (fI : Addr) : Prop where
  ex : ∃ (qual : Str) (params : Arguments) (sc : Scope) (dV kV doc pm cdv ct oc : Value) (an od : Option Addr) (osl : Array (Option Value)) (p1 p2 p3 p4 : Pos),
    Ω.K.lookup fI = some ⟨oc, od, .func (PySem.W.fnOf "__init__" qual params [.Assign [.Attribute (.Name "self" p1) "value" p2] (.Name "value" p3) p4] sc dV kV doc pm an cdv ct), osl⟩ ∧ PySem.W.codeIn Ω.K cdv qual = true ∧ FnScope ["self", "value"] ["self", "value"] sc ∧
    Binds Ω.K (PySem.W.fnOf "__init__" qual params [.Assign [.Attribute (.Name "self" p1) "value" p2] (.Name "value" p3) p4] sc dV kV doc pm an cdv ct) ["self", "value"] []
/-- what stands written of the error c -/
structure ErrOk (Ω : Wd) (c : Nat) : Prop where
  mg : Ω.mg (gname Ω.Γ.cls c) = some (.ref (Ω.ca c))
  oex : OexC Ω.K (Ω.ca c)
  val : PySem.W.findIn Ω.K (.ref (Ω.ca c)) "value" = some none
  ini : ∃ fI, PySem.W.findIn Ω.K (.ref (Ω.ca c)) "__init__" = some (some (.ref fI)) ∧ PySem.W.typeIn Ω.K (.ref fI) = some (.type "function") ∧ IniOk Ω fI
section
variable {Ω : Wd}
theorem ini_ok {fI : Addr} (h : IniOk Ω fI) : ∃ fd, FnOk Ω.P Ω.w Ω.K Ω.mg Ω.base C8.CX0 1 fI fd ["self", "value"] (spIni Ω.K) ∧ Binds Ω.K fd ["self", "value"] [] := by
  obtain ⟨qual, params, sc, dV, kV, doc, pm, cdv, ct, oc, an, od, osl, p1, p2, p3, p4, lk, hcd, S, hb⟩ := h.ex
  refine ⟨_, fn_of (k := 0) lk hcd S (fun vs H Q E ⟨a, C, v, e, _⟩ => by rw [e]; rfl) (fun A outer s H vs Q E hr ⟨a, C, v, ev, T, hno, ha, q⟩ => ?_), hb⟩
  subst ev
  have vis : ∀ x ∈ (["self", "value"] : List Str), Vis sc x := fun x hx => by
    rcases S.par x hx with z | z
    · exact .inl z
    · exact .inr (.inl z)
  refine ⟨_, pss_one (ps_ost (pe_var (i := 0) rfl (vis _ (by simp)) (by decide) (by decide)) (pe_var (i := 1) rfl (vis _ (by simp)) (by decide) (by decide))), ?_⟩
  exact ⟨v, rfl, .ref a, rfl, a, C, rfl, T, hno, .inl ⟨ha, fun dx n ne => q dx n ne⟩⟩
theorem rai_ok (h : ∀ c, c < Ω.Γ.cls.length → ErrOk Ω c) (lv : Nat) : RaiOk Ω lv := by
  intro N sc X g hr2 c q p e te hc hgl he
  obtain ⟨mg, oex, val, fI, iC, tI, io⟩ := h c hc
  obtain ⟨fd, F, hb⟩ := ini_ok io
  obtain ⟨gl, db⟩ := g.gl hgl
  have he2 : PE X (up Ω.Γ N e) (fun σ H Q2 => ∃ Q1 : VK, te σ H Q1 ∧ ∀ v H1, Q1 v H1 → Q2 v H1) := ⟨fun pins s σ H Q I ⟨Q1, h1, h2⟩ => thn (he.run pins s σ H Q1 I h1) fun u s1 ⟨v, H1, I1, r, q⟩ => ⟨v, H1, I1, r, h2 v H1 q⟩⟩
  have z := pmk_oex (X := X) (CX := C8.CX0) (x := gname Ω.Γ.cls c) (C := Ω.ca c) (fI := fI) (k := 1) (fd := fd) (ps := ["self", "value"]) (sp := spIni Ω.K) (ds := []) (dvs := []) (p := q) (pos := p) (by rw [g.K]; exact oex) (by rw [g.K]; exact iC) (by rw [g.K]; exact tI)
    (by rw [g.P, g.w, g.K, g.mg, g.base]; exact F) hr2 (by rw [g.K]; exact hb) .nil (fun _ _ _ _ _ _ _ z => (show False from z).elim) gl (by rw [g.mg]; exact mg) (pa_cons he2 pa_nil (star_up _ _ _)) db (star_up _ _ _) rfl
  intro pins s σ H Q I hq
  refine z pins s σ H Q I ⟨_, hq, fun v H1 hv => ⟨by show 1 ≤ 1000; decide, fun a ha => ⟨a, Ω.ca c, v, rfl, oex, val, upd_same, fun dx n ne => ⟨rfl, dx, [("value", v)], upd_same, by rw [upd_ne ne, upd_same], ?_, ?_⟩⟩⟩⟩
  · rw [upd_ne ne] at n
    exact n
  · have n' : H1 dx = none := by rw [upd_ne ne] at n; exact n
    have e : upd (L2.del (upd (upd (upd H1 a (exo a (Ω.ca c) none)) dx (exd dx [("value", v)])) a (exo a (Ω.ca c) (some dx))) a) dx (.xd [("value", v)]) = upd H1 dx (.xd [("value", v)]) := by
      funext b
      by_cases hb : b = dx
      · rw [hb, upd_same, upd_same]
      · rw [upd_ne hb, upd_ne hb]
        by_cases ha' : b = a
        · rw [ha', del_same, ha]
        · rw [del_ne ha', upd_ne ha', upd_ne hb, upd_ne ha']
    rw [e]
    exact hv dx n'
end
end Mn

-- Mn22
set_option Elab.async false
set_option linter.all false
set_option maxRecDepth 100000
set_option maxHeartbeats 2000000
set_option autoImplicit false
namespace Mn
open PySem PySem.Spec L2 PyProof.Rows LamX

/-! ## the def that tells of an action -/
abbrev nH : Str := "_law_told_here"
abbrev nE : Str := "e"
abbrev nA : Str := "_law_act"
abbrev tN : List Str := [nA, nH, nE]
/-- a clause: the error, its tag, its places -/
structure Hd where
  c : Nat
  tag : Str
  P : Nat → Pos
section
variable (Γ : Gam)
def Hd.up (h : Hd) : ExceptHandler :=
  .ExceptHandler (some (.Name (gname Γ.cls h.c) (h.P 0))) (some nE) [.Assign [.Name nH (h.P 1)] (.List [.Constant (.str h.tag) 0 (h.P 2), .Attribute (.Name nE (h.P 3)) "value" (h.P 4),
    .BoolOp .And [.Call (.Name "isinstance" (h.P 5)) [.Name nE (h.P 6), .Name "HeldError" (h.P 7)] [] (h.P 8), .Call (.Name "isinstance" (h.P 9)) [.Name nE (h.P 10), .Name "ValueError" (h.P 11)] [] (h.P 12)] (h.P 13)] (h.P 14)) (h.P 15)] (h.P 16)
def toldB (h0 : Hd) (hs : List Hd) (P : Nat → Pos) : List Stmt :=
  [.Assign [.Name nH (P 0)] (.List [.Constant (.str "other") 0 (P 1)] (P 2)) (P 3),
   .Try [.Assign [.Name nH (P 4)] (.List [.Constant (.str "done") 0 (P 5), .Call (.Name nA (P 6)) [] [] (P 7)] (P 8)) (P 9)] (h0.up Γ :: hs.map (·.up Γ)) [] [] (P 10),
   .Return (some (.Call (.Name "repr" (P 11)) [.Name nH (P 12)] [] (P 13))) (P 14)]
end
def tagL (hs : List Hd) : List (Nat × Str) := hs.map fun h => (h.c, h.tag)
/-- what it makes of the action's reading -/
def TTell (K : PySem.W.Frag) (ca : Nat → Addr) (tags : List (Nat × Str)) : (XK → Hp → VK → Prop) → Hp → VK → Prop := fun tl H Q => ∀ p0, H p0 = none →
  tl (fun cls d H1 => ∃ c tag dd v, tags.lookup c = some tag ∧ cls = .ref (ca c) ∧ d = some dd ∧ H1 dd = some (.xd [("value", v)]) ∧ ∀ p1, H1 p1 = none → rShow K [.ref p1] (upd H1 p1 (.lst [.str tag, v, .bl true])) Q) (upd H p0 (.lst [.str "other"]))
    (fun v H1 => ∀ p1, H1 p1 = none → rShow K [.ref p1] (upd H1 p1 (.lst [.str "done", v])) Q)
/-- what stands written -/
structure TldOk (Ω : Wd) (g hld : Addr) (h0 : Hd) (hs : List Hd) (P : Nat → Pos) : Prop where
  ex : ∃ (params : Arguments) (sg : Scope) (dV kV doc pm cdv ct oc : Value) (an od : Option Addr) (osl : Array (Option Value)),
    Ω.K.lookup g = some ⟨oc, od, .func (PySem.W.fnOf Ω.Γ.told Ω.Γ.told params (toldB Ω.Γ h0 hs P) sg dV kV doc pm an cdv ct), osl⟩ ∧ PySem.W.codeIn Ω.K cdv Ω.Γ.told = true ∧ L2.Binds Ω.K (PySem.W.fnOf Ω.Γ.told Ω.Γ.told params (toldB Ω.Γ h0 hs P) sg dV kV doc pm an cdv ct) [nA] [] ∧
    FnScope tN [nA] sg ∧ sg.names.lookup nH = some .local ∧ sg.names.lookup nE = some .local ∧ Vis sg nA ∧
    (∀ h ∈ h0 :: hs, isGl sg (gname Ω.Γ.cls h.c) = true) ∧ isGl sg "isinstance" = true ∧ isGl sg "HeldError" = true ∧ isGl sg "ValueError" = true ∧ isGl sg "repr" = true
  mgt : Ω.mg Ω.Γ.told = some (.ref g)
  kp : PySem.W.keepIn Ω.K (.ref g) = true
  mgc : ∀ h ∈ h0 :: hs, Ω.mg (gname Ω.Γ.cls h.c) = some (.ref (Ω.ca h.c))
  xf : ∀ h ∈ h0 :: hs, XfC Ω.K (Ω.ca h.c) ∧ ExcC Ω.K (Ω.ca h.c) ∧ PySem.W.findIn Ω.K (.ref (Ω.ca h.c)) "value" = some none ∧ PySem.W.kitOne Ω.K (.ref (Ω.ca h.c)) (.ref hld) = some true ∧ PySem.W.kitOne Ω.K (.ref (Ω.ca h.c)) (.type "ValueError") = some true
  em : ∀ h ∈ h0 :: hs, ∀ h' ∈ h0 :: hs, PySem.W.exmOne Ω.K (.ref (Ω.ca h.c)) (.ref (Ω.ca h'.c)) = some (decide (h.c = h'.c))
  mgi : Ω.mg "isinstance" = none
  mgr : Ω.mg "repr" = none
  mgv : Ω.mg "ValueError" = none
  mgh : Ω.mg "HeldError" = some (.ref hld)
  sys : ∃ o, Ω.base.get? sysModules = some o ∧ o.cls ≠ .type "list"
/-- isinstance(e, c) in a suite -/
def tIsD (K : PySem.W.Frag) (a : Addr) (cls : Value) (d : Option Addr) (C : Addr) (i : Nat) (c : V) : TE := fun σ H Q => cls = .ref C ∧ ∃ dd, d = some dd ∧ tCB (rIsD K C a dd) (tCons (tVar i) (tCons (tC c) tNil)) σ H Q
/-- what a clause's suite asks -/
def tSuite (K : PySem.W.Frag) (a : Addr) (cls : Value) (d : Option Addr) (C hld : Addr) (tag : Str) : TS :=
  tAsg (tLst (tCons (tC (.str tag)) (tCons (tXf a cls d C "value" (tVar 2)) (tCons (tAndV (tIsD K a cls d C 2 (.ref hld)) (tIsD K a cls d C 2 (.ty "ValueError"))) tNil)))) (gName 1)
section
variable {Ω : Wd} {N : List Str} {sc : Sk} {lv : Nat} {X : Cx} {g hld : Addr} {h0 : Hd} {hs : List Hd} {P : Nat → Pos}
theorem gl_of {Y : Cx} {sg : Scope} {x : Str} (hs : Y.env.scope = sg) (h : isGl sg x = true) : Gl Y x ∧ (x == ("__debug__" : Str)) = false := by
  unfold isGl at h
  simp only [Bool.and_eq_true, decide_eq_true_eq, Bool.not_eq_true'] at h
  exact ⟨by show Y.env.scope.names.lookup x = _; rw [hs]; exact h.1, h.2⟩
theorem suite_ok {Y : Cx} {sg : Scope} {h : Hd} {a : Addr} {oe : Obj} {cls : Value} {d : Option Addr} {pn : List (Addr × Obj)} (eN : Y.N = tN) (es : Y.env.scope = sg) (eK : Y.K = Ω.K) (eM : Y.mg = Ω.mg) (fn : ∀ x, Y.fn x = true)
    (nd : Y.N.Nodup) (l1 : sg.names.lookup nH = some .local) (l2 : sg.names.lookup nE = some .local) (gi : isGl sg "isinstance" = true) (gh : isGl sg "HeldError" = true) (gv : isGl sg "ValueError" = true)
    (mgi : Ω.mg "isinstance" = none) (mgv : Ω.mg "ValueError" = none) (mgh : Ω.mg "HeldError" = some (.ref hld))
    (xf : XfC Ω.K (Ω.ca h.c) ∧ ExcC Ω.K (Ω.ca h.c) ∧ PySem.W.findIn Ω.K (.ref (Ω.ca h.c)) "value" = some none) (hz : Zc cls d oe) (hf : ∃ vs, oe.data = .fields vs) :
    PSs (Y.suite a ((a, oe) :: pn)) [.Assign [.Name nH (h.P 1)] (.List [.Constant (.str h.tag) 0 (h.P 2), .Attribute (.Name nE (h.P 3)) "value" (h.P 4),
      .BoolOp .And [.Call (.Name "isinstance" (h.P 5)) [.Name nE (h.P 6), .Name "HeldError" (h.P 7)] [] (h.P 8), .Call (.Name "isinstance" (h.P 9)) [.Name nE (h.P 10), .Name "ValueError" (h.P 11)] [] (h.P 12)] (h.P 13)] (h.P 14)) (h.P 15)]
      (tSuite Ω.K a cls d (Ω.ca h.c) hld h.tag) := by
  have eV : ∀ {p : Pos}, PE (Y.suite a ((a, oe) :: pn)) (.Name nE p) (tVar 2) := fun {p} => pe_var (by show Y.N[2]? = _; rw [eN]; rfl) (.inl (by show Y.env.scope.names.lookup _ = _; rw [es]; exact l2)) (by decide) (by decide)
  have isd : ∀ {x : Str} {c : V} {p1 p2 p3 p4 : Pos}, PE (Y.suite a ((a, oe) :: pn)) (.Name x p3) (tC c) → PE (Y.suite a ((a, oe) :: pn)) (.Call (.Name "isinstance" p1) [.Name nE p2, .Name x p3] [] p4) (tIsD Ω.K a cls d (Ω.ca h.c) 2 c) := fun {x c p1 p2 p3 p4} hc => by
    refine ⟨fun pins s σ H Q I ⟨e1, dd, e2, q⟩ => ?_⟩
    subst e1
    subst e2
    obtain ⟨gl, db⟩ := gl_of (Y := Y.suite a ((a, oe) :: pn)) es gi
    have z := pe_callB (X := Y.suite a ((a, oe) :: pn)) (p := p1) (pos := p4) (call_isD (X := Y) (by rw [eK]; exact xf.2.1) hz hf) gl (by show Y.mg _ = _; rw [eM]; exact mgi) (by decide +kernel) (pa_cons (eV (p := p2)) (pa_cons hc pa_nil rfl) rfl) (by decide) db rfl rfl
    rw [eK] at z
    exact z.run pins s σ H Q I q
  have held : PE (Y.suite a ((a, oe) :: pn)) (.Name "HeldError" (h.P 7)) (tC (.ref hld)) := by
    obtain ⟨gl, db⟩ := gl_of (Y := Y.suite a ((a, oe) :: pn)) es gh
    exact pe_glob gl (by show Y.mg _ = _; rw [eM]; exact mgh) rfl db
  have ver : PE (Y.suite a ((a, oe) :: pn)) (.Name "ValueError" (h.P 11)) (tC (.ty "ValueError")) := by
    obtain ⟨gl, db⟩ := gl_of (Y := Y.suite a ((a, oe) :: pn)) es gv
    exact pe_bltn gl (by show Y.mg _ = _; rw [eM]; exact mgv) (by decide +kernel) rfl (by decide) db
  have xv : PE (Y.suite a ((a, oe) :: pn)) (.Attribute (.Name nE (h.P 3)) "value" (h.P 4)) (tXf a cls d (Ω.ca h.c) "value" (tVar 2)) := pe_xf (X := Y) (by rw [eK]; exact xf.1) (by rw [eK]; exact xf.2.2) hz hf eV
  exact pss_one (ps_set (i := 1) nd (by show Y.N[1]? = _; rw [eN]; rfl) (.inl (by show Y.env.scope.names.lookup _ = _; rw [es]; exact l1)) (pe_lst (pa_cons pe_str (pa_cons xv (pa_cons (pe_and (isd held) (pe_one (isd ver))) pa_nil)))) rfl (.inl (fn _)))
theorem lookup_cons {c c' : Nat} {t t' : Str} {l : List (Nat × Str)} (h : ((c', t') :: l).lookup c = some t) : (c = c' ∧ t = t') ∨ (c ≠ c' ∧ l.lookup c = some t) := by
  rw [List.lookup_cons] at h
  by_cases e : c = c'
  · subst e
    simp at h
    exact .inl ⟨rfl, h.symm⟩
  · have : (c == c') = false := by simpa using e
    rw [this] at h
    exact .inr ⟨e, h⟩
theorem wish_ok (T : TldOk Ω g hld h0 hs P) {D : Ends} {Q : VK} {c : Nat} {tag : Str} {dd : Addr} {v : V} {x y z : Option V} {H : Hp} (hD : ∀ (x : Option V) (p : Addr) (H' : Hp), rShow Ω.K [.ref p] H' Q → D.nx [x, some (.ref p), none] H') (hd : H dd = some (.xd [("value", v)]))
    (hq : ∀ p1, H p1 = none → rShow Ω.K [.ref p1] (upd H p1 (.lst [.str tag, v, .bl true])) Q) : ∀ l : List Hd, (∀ h ∈ l, h ∈ h0 :: hs) → (∃ h ∈ h0 :: hs, h.c = c) → (tagL l).lookup c = some tag →
      wMas Ω.K 2 (fun _ _ _ _ => False) D (l.map fun h => (Value.ref (Ω.ca h.c), fun a cls d => tSuite Ω.K a cls d (Ω.ca h.c) hld h.tag)) (.ref (Ω.ca c)) (some dd) [x, y, z] H
  | [], _, _, e => by cases e
  | h :: l, hm, hc, e => by
    have e : ((h.c, h.tag) :: tagL l).lookup c = some tag := e
    have hh := hm h List.mem_cons_self
    obtain ⟨h1, hm1, rfl⟩ := hc
    have em := T.em h1 hm1 h hh
    refine ⟨_, em, fun hb a ha => ?_, fun hb => ?_⟩
    · have e1 : h1.c = h.c := of_decide_eq_true hb
      have et : tag = h.tag := by
        rcases lookup_cons e with ⟨_, z⟩ | ⟨z, _⟩
        · exact z
        · exact absurd e1 z
      rw [e1]
      obtain ⟨_, _, _, k1, k2⟩ := T.xf h hh
      refine ⟨.ref a, rfl, rfl, rfl, dd, [("value", v)], v, rfl, hd, rfl, ?_⟩
      refine ⟨rfl, dd, rfl, .ref a, rfl, .ref hld, .ref hld, true, _, rfl, fun u r => r, k1, hd, true, rfl, ?_⟩
      rw [if_pos rfl]
      refine ⟨rfl, dd, rfl, .ref a, rfl, .ty "ValueError", .type "ValueError", true, _, rfl, fun u r => r, k2, hd, ?_⟩
      refine ⟨by show 3 ≤ sizeLine; decide, fun p1 hp1 => ?_⟩
      have := hq p1 hp1
      rw [et] at this
      exact hD x p1 _ this
    · have e1 : h1.c ≠ h.c := of_decide_eq_false hb
      rcases lookup_cons e with ⟨z, _⟩ | ⟨_, z⟩
      · exact absurd z e1
      · exact wish_ok T hD hd hq l (fun h hx => hm h (List.mem_cons_of_mem _ hx)) ⟨h1, hm1, rfl⟩ z
theorem tells (T : TldOk Ω g hld h0 hs P) (gd : Good Ω N sc lv X) (hr : Room 1 X.A) {params : Arguments} {sg : Scope} {cdv : Value} (S : FnScope tN [nA] sg) (l1 : sg.names.lookup nH = some .local) (l2 : sg.names.lookup nE = some .local) (va : Vis sg nA)
    (gc : ∀ h ∈ h0 :: hs, isGl sg (gname Ω.Γ.cls h.c) = true) (gi : isGl sg "isinstance" = true) (gh : isGl sg "HeldError" = true) (gv : isGl sg "ValueError" = true) (gr : isGl sg "repr" = true) (q : Str) :
    GivesG X tN Ω.Γ.told sg g cdv (toldB Ω.Γ h0 hs P) nA q (TTell Ω.K Ω.ca (tagL (h0 :: hs))) := by
  intro f c' s H Q tl act hc h
  generalize eY : (cxOf C8.CX0 X.prog X.w X.K X.mg X.base tN Ω.Γ.told sg g cdv X.A X.stack s H C8.E0).nox = Y
  have eN : Y.N = tN := by rw [← eY]; rfl
  have es : Y.env.scope = sg := by rw [← eY]; rfl
  have eK : Y.K = Ω.K := by rw [← eY]; exact gd.K
  have eM : Y.mg = Ω.mg := by rw [← eY]; exact gd.mg
  have fn : ∀ x, Y.fn x = true := fun x => by rw [← eY]; rfl
  have nd : Y.N.Nodup := by rw [eN]; exact S.nd
  have hcm : Y.calm = true := by rw [← eY]; rfl
  have hst : Y.stack = Y.env :: Y.outer := by rw [← eY]; rfl
  have hfr : Y.env.frame = some Y.env.locals := by rw [← eY]; rfl
  have a0 : A0 Y := by
    rw [← eY]
    exact ⟨gd.grd, hr.deeper _⟩
  have sy : SysOk Y := by
    rw [← eY]
    show ∃ o, X.base.get? sysModules = some o ∧ _
    rw [gd.base]
    exact T.sys
  have here : ∀ {Z : Cx} {p : Pos}, Z.N = Y.N → Z.env = Y.env → PE Z (.Name nH p) (tVar 1) := fun {Z p} e1 e2 => pe_var (by rw [e1, eN]; rfl) (.inl (by rw [e2, es]; exact l1)) (by decide) (by decide)
  have setH : ∀ {Z : Cx} {e : Expr} {te : TE} {p1 p2 : Pos}, Z.N = Y.N → Z.env = Y.env → Z.fn = Y.fn → PE Z e te → swapsWith e (some (.Name nH p1)) p2.line Z.env = pure false → PS Z (.Assign [.Name nH p1] e p2) (tAsg te (gName 1)) := fun {Z e te p1 p2} e1 e2 e3 he hs =>
    ps_set (by rw [e1]; exact nd) (by rw [e1, eN]; rfl) (.inl (by rw [e2, es]; exact l1)) he hs (.inl (by rw [e3]; exact fn _))
  obtain ⟨glr, dbr⟩ := gl_of (Y := Y) es gr
  have rp : PE Y (.Call (.Name "repr" (P 11)) [.Name nH (P 12)] [] (P 13)) (tCB (rShow Ω.K) (tCons (tVar 1) tNil)) := by
    have z := pe_callB (X := Y) (p := P 11) (pos := P 13) (cr_show a0 sy) glr (by rw [eM]; exact T.mgr) (by decide +kernel) (pa_cons (here (p := P 12) rfl rfl) pa_nil rfl) (by decide) dbr rfl rfl
    rw [eK] at z
    exact z
  have hds : HdsA Y nE (h0.up Ω.Γ :: hs.map (·.up Ω.Γ)) ((h0 :: hs).map fun h => (Value.ref (Ω.ca h.c), fun a cls d => tSuite Ω.K a cls d (Ω.ca h.c) hld h.tag)) := by
    have gen : ∀ l : List Hd, (∀ h ∈ l, h ∈ h0 :: hs) → HdsA Y nE (l.map (·.up Ω.Γ)) (l.map fun h => (Value.ref (Ω.ca h.c), fun a cls d => tSuite Ω.K a cls d (Ω.ca h.c) hld h.tag)) := by
      intro l
      induction l with
      | nil => intro _; exact .nil
      | cons h l ih =>
        intro hm
        have hh := hm h List.mem_cons_self
        obtain ⟨gl, db⟩ := gl_of (Y := Y) es (gc h hh)
        have x5 := T.xf h hh
        exact .cons ⟨gl, db, .inl (by rw [eM]; exact T.mgc h hh)⟩ (fun a oe cls d pn hz hf => suite_ok eN es eK eM fn nd l1 l2 gi gh gv T.mgi T.mgv T.mgh ⟨x5.1, x5.2.1, x5.2.2.1⟩ hz hf) (ih fun h hx => hm h (List.mem_cons_of_mem _ hx))
    exact gen (h0 :: hs) fun h hx => hx
  have tr := ps_try_mas (X := Y) (i := 2) (n := nE) (pos := P 10) (Wout := fun _ _ _ _ => False)
    (body := [.Assign [.Name nH (P 4)] (.List [.Constant (.str "done") 0 (P 5), .Call (.Name nA (P 6)) [] [] (P 7)] (P 8)) (P 9)])
    (tb := fun W => tAsg (tLst (tCons (tC (.str "done")) (tCons (fun σZ HZ Q' => ∃ (E : XK) (Q1 : VK), (∀ cls d (σ' : L2.St) H', σ'.length = 3 → E cls d H' → W cls d σ' H') ∧ (σZ[0]? = some (some (.ref f)) ∧ HZ c' = some (CodeO c' q) ∧ tl E HZ Q1) ∧ ∀ v H', Q1 v H' → Q' v H') tNil))) (gName 1))
    hst hfr nd (by rw [eN]; rfl) (by show Y.env.scope.names.lookup _ = _; rw [es]; exact l2) takes0 (fun W pn xe tk _ => by
      refine pss_one (setH rfl rfl rfl (pe_lst (pa_cons pe_str (pa_cons ?_ pa_nil rfl))) rfl)
      refine ⟨fun pins s' σ' H' Q' I ⟨E, Q1, hW, hq, hQ⟩ => ?_⟩
      subst eY
      exact thn ((act W pn xe E (P 6) (P 7) tk hW).run pins s' σ' H' Q1 I hq) fun u s1 ⟨v, H1, I1, r, q⟩ => ⟨v, H1, I1, r, hQ v H1 q⟩) hds
  refine ⟨_, pss_cons (setH rfl rfl rfl (pe_lst (pa_cons pe_str pa_nil)) rfl) (pss_cons tr (pss_one (ps_ret rp))), ?_⟩
  refine ⟨by show 1 ≤ sizeLine; decide, fun p0 hp0 => ?_⟩
  have st : (L2.start tN [V.ref f]).set 1 (some (.ref p0)) = [some (.ref f), some (.ref p0), none] := rfl
  show (_ : Prop)
  refine ⟨_, _, fun cls d σ' H' hl hE => ?_, ⟨rfl, ?_, h p0 hp0⟩, fun v H1 hq => ⟨by show 2 ≤ sizeLine; decide, fun p1 hp1 => ?_⟩⟩
  · obtain ⟨c, tag, dd, v, e1, rfl, rfl, hd, hq⟩ := hE
    match σ', hl with
    | [x, y, z], _ =>
      rw [eK]
      have mem : ∀ l : List Hd, (tagL l).lookup c = some tag → ∃ h ∈ l, h.c = c := by
        intro l
        induction l with
        | nil => intro e; cases e
        | cons h l ih =>
          intro e
          have e : ((h.c, h.tag) :: tagL l).lookup c = some tag := e
          rcases lookup_cons e with ⟨z, _⟩ | ⟨_, z⟩
          · exact ⟨h, List.mem_cons_self, z.symm⟩
          · obtain ⟨h', m, e'⟩ := ih z
            exact ⟨h', List.mem_cons_of_mem _ m, e'⟩
      refine wish_ok (Q := Q) T ?hD hd hq (h0 :: hs) (fun h hx => hx) (mem _ e1) e1
      intro x p H' hr
      exact ⟨_, rfl, hr⟩
  · rw [upd_ne (ne_of_none hc hp0)]
    exact hc
  · exact ⟨_, rfl, hq p1 hp1⟩
end
end Mn

-- Mn23
set_option Elab.async false
set_option linter.all false
set_option maxRecDepth 100000
set_option maxHeartbeats 2000000
set_option autoImplicit false
namespace Mn
open PySem PySem.Spec L2 PyProof.Rows LamX
theorem noArgs_eq {a : Arguments} (h : isNoArgs a = true) : a = { posonlyargs := [], args := [], vararg := none, kwonlyargs := [], kw_defaults := [], kwarg := none, defaults := [] } := by
  unfold isNoArgs at h
  simp only [Bool.and_eq_true, List.isEmpty_iff, Option.isNone_iff_eq_none] at h
  obtain ⟨⟨⟨⟨⟨⟨h1, h2⟩, h3⟩, h4⟩, h5⟩, h6⟩, h7⟩ := h
  cases a
  simp only at h1 h2 h3 h4 h5 h6 h7
  subst h1 h2 h3 h4 h5 h6 h7
  rfl
section
variable {Ω : Wd} {g hld : Addr} {h0 : Hd} {hs : List Hd} {P : Nat → Pos}
abbrev tspT (Ω : Wd) (h0 : Hd) (hs : List Hd) : (XK → TE) → TE := tLamG Ω.T (TTell Ω.K Ω.ca (tagL (h0 :: hs)))
theorem tell_ok (T : TldOk Ω g hld h0 hs P) (N : List Str) (lv : Nat) (hdb : (Ω.Γ.told == ("__debug__" : Str)) = false) : TellOk Ω N lv (tspT Ω h0 hs) := by
  intro sc X gd hlm ar body scope t q lp p hgl hL har hbody
  obtain ⟨hr, c, P', hcode, TB, hmT, hu⟩ := gd.lam hlm
  obtain ⟨params, sg, dV, kV, doc, pm, cdv, ct, oc, an, od, osl, lk, hcg, hb, S, l1, l2, va, gc, gi, gh, gv, gr⟩ := T.ex
  obtain rfl := noArgs_eq har
  obtain ⟨gl, db⟩ := gd.gl hgl
  exact pe_lamG (k := lv) (T := Ω.T) (TT := TTell Ω.K Ω.ca (tagL (h0 :: hs))) (x := Ω.Γ.told) (a := nA) (g := g) (c := c) (P := P') (Ng := tN) gl (by rw [gd.mg]; exact T.mgt) (by rw [gd.K]; exact T.kp) (by rw [gd.K]; exact lk) (by rw [gd.K]; exact hcg) (by rw [gd.K]; exact hb) S rfl va
    (tells (cdv := cdv) (params := params) T gd (hr.mono (by omega)) S l1 l2 va gc gi gh gv gr _) TB hcode hmT hu hr gd.grd hL rfl (fun _ _ _ _ _ => rfl) hbody hdb (by decide) (by decide)
theorem ext_rel {K : PySem.W.Frag} {T : List (Addr × Str)} {δ : List Sl} {σ : L2.St} {G H H1 : Hp} (R : Rel K T δ σ G H) (e : ExtN H H1) (t : Tabs T H1) (l : Lives H H1) : Rel K T δ σ G H1 ∧ GoE δ δ σ G H G H1 := by
  refine ⟨⟨R.len, fun b o q => e b o (R.sub b o q) fun ps z => R.ntb b ps (by rw [q, z]), R.ntb, t, R.val, fun i xs h => ?_, R.sep⟩, ⟨⟨Same.refl G, fun b o q _ n => e b o q n, l, fun b o q => .inl q, fun b h => .inl h⟩, fun i xs h => ⟨xs, h⟩, fun i xs h => h, fun i a h => .inl h.1⟩⟩
  obtain ⟨a, vs, h1, h2, h3, h4⟩ := R.own i xs h
  exact ⟨a, vs, h1, e a _ h2 (fun ps z => by cases z), h3, h4⟩
/-- the wish of what is shown, a new list of three or two things -/
theorem show_new {K : PySem.W.Frag} {T : List (Addr × Str)} {δ : List Sl} {σ : L2.St} {G H : Hp} {vs : List V} {ds : List Mn.D} {x : Mn.D} {p : Addr} {Q : VK} (R : Rel K T δ σ G H) (hp : H p = none) (dn : DenL K G vs ds) (e : shD (.lst ds) = some x)
    (q : ∀ s, x = .str s → Q (.str s) (upd H p (.lst vs))) : rShow K [.ref p] (upd H p (.lst vs)) Q := by
  unfold shD at e
  split at e
  · rename_i c
    cases e
    simp only [Bool.and_eq_true, decide_eq_true_eq] at c
    exact ⟨.ref p, .lst ds, G, rfl, same_new R.sub hp, .inr ⟨p, vs, ds, rfl, rfl, upd_same, dn⟩, c.1.1.1, c.1.1.2, c.1.2, c.2, q _ rfl⟩
  · cases e
theorem shD_str {d x : Mn.D} (e : shD d = some x) : ∃ s, x = .str s := by
  unfold shD at e
  split at e
  · cases e
    exact ⟨_, rfl⟩
  · cases e
theorem tell_td (tags : List (Nat × Str)) (n : Nat) (t : XK → TE) (W : WX) (δ : List Sl) (o o' : EO) (h : ∀ E : XK, SE Ω (t E) (fun c d _ H => E c d H) n δ o) (e : tell (fun c => tags.lookup c) o = some o') : SE Ω (tLamG Ω.T (TTell Ω.K Ω.ca tags) t) W n δ o' := by
  intro σ G H Q hl Rl post
  refine ⟨Rl.tab, fun H1 eN T1 lv p0 hp0 => ?_⟩
  obtain ⟨R1, g1⟩ := ext_rel Rl eN T1 lv
  have R2 := R1.laid (o := .lst [.str "other"]) hp0
  have g2 := g1.trans (GoE.laid (o := .lst [.str "other"]) hp0)
  refine h _ σ G _ _ hl R2 ?_
  cases o with
  | ok r δ1 =>
    unfold tell at e
    dsimp only at e
    split at e
    · rename_i d δ2 ef
      obtain ⟨x, e1, e2⟩ := Option.map_eq_some_iff.mp e
      subst e2
      intro v G3 H3 R3 g3 rv p1 hp1
      obtain ⟨G4, R4, g4, dn, _⟩ := frz_ok R2 g3 R3 rv ef
      refine show_new R4 hp1 (.cons (.str _) (.cons dn .nil)) e1 fun s es => ?_
      subst es
      exact post _ G4 _ (R4.laid hp1) ((g2.trans g4).trans (GoE.laid hp1)) (.str _)
    · cases e
  | exc c d δ1 =>
    unfold tell at e
    dsimp only at e
    split at e
    · rename_i tag et
      obtain ⟨x, e1, e2⟩ := Option.map_eq_some_iff.mp e
      subst e2
      intro v dd G3 H3 R3 g3 hx dn
      refine ⟨c, tag, dd, v, et, rfl, rfl, hx, fun p1 hp1 => ?_⟩
      refine show_new R3 hp1 (.cons (.str _) (.cons dn (.cons (.bl true) .nil))) e1 fun s es => ?_
      subst es
      exact post _ G3 _ (R3.laid hp1) ((g2.trans g3).trans (GoE.laid hp1)) (.str _)
    · cases e
end
end Mn

-- Mn24
set_option Elab.async false
set_option linter.all false
set_option maxRecDepth 100000
set_option maxHeartbeats 2000000
set_option autoImplicit false
namespace Mn
open PySem PySem.Spec L2 PyProof.Rows LamX

/-! ## the law's entry -/
abbrev tab0 : Obj := { cls := .none, data := .fields #[] }
section
variable {P : Program} {w : World} {K : PySem.W.Frag} {mg mb : Str → Option Value} {cs : List (Addr × Addr)} {s₁ : Shared} {a : Addr} {vs : List Value} {ns : List Int}
/-- what is tracked at the entry: the script (unless it stands written), the tables -/
def entH (K : PySem.W.Frag) (cs : List (Addr × Addr)) (a : Addr) (vs : List Value) (ns : List Int) : Hp := fun b =>
  if b = a ∧ K.lookup a = none then some (.frz { cls := .type "list", data := .seq vs.toArray } (.lst (ns.map V.int))) else if b ∈ cs.map (·.2) then some (.tbl #[]) else none
theorem law_env (KX : K.In s₁.heap) (hns : s₁.heap.Ns mainGlobals mg) (hb : s₁.heap.Ns builtinsNs mb) (hbb : ∀ x : Str, x ≠ "__name__" → mb x = bootBuiltins x) (hlim : s₁.heap.NoLimit) (hg : s₁.gens = #[])
    (hT : ∀ p ∈ cs, s₁.heap.get? p.2 = some tab0) (nT : ∀ p ∈ cs, K.lookup p.2 = none) (C : ∀ p ∈ cs, PySem.W.CodeHd s₁.heap p.1 p.2)
    (hbm : ∃ (bm : Addr) (ob : Obj), mg "__builtins__" = some (.ref bm) ∧ bm ≠ builtinsNs ∧ s₁.heap.get? bm = some ob ∧ ob.cls = .type "module" ∧ ob.dict = some builtinsNs ∧ ob.data = .plain)
    (ha : s₁.heap.get? a = some { cls := .type "list", data := .seq vs.toArray }) (hi : IntsAre vs ns) (hl : ns.length ≤ sizeLine) (hsy : ∃ o, s₁.heap.get? sysModules = some o ∧ ∃ es n, o.data = .dict es n) :
    ∃ (base : Heap) (H : Hp), Env0 P w K mg base callerA [] s₁ H ∧ (∀ p ∈ cs, TabB base mg p.1 p.2) ∧ (∀ p ∈ cs, H p.2 = some (.tbl #[])) ∧ SqL K H a (ns.map V.int) ∧ (∃ o, base.get? sysModules = some o ∧ ∃ es n, o.data = .dict es n) ∧
      (∀ b, H b = none ∨ H b = some (.tbl #[]) ∨ ∃ o xs, H b = some (.frz o (.lst xs))) ∧ ∀ (H' : Hp) (s' : Shared), Un (frs []) [] H H' s₁.heap s'.heap → HOk P w H' s'.heap → OldK s₁.heap s'.heap := by
  have rv := vals_ints hi
  have lenV := hi.length
  have isT : ∀ b, b ∈ cs.map (·.2) → s₁.heap.get? b = some tab0 := fun b hm => by
    obtain ⟨p, hp, rfl⟩ := List.mem_map.mp hm
    exact hT p hp
  have inT : ∀ p ∈ cs, p.2 ∈ cs.map (·.2) := fun p hp => List.mem_map.mpr ⟨p, hp, rfl⟩
  have aT : a ∉ cs.map (·.2) := fun z => by
    have q := isT a z
    rw [ha] at q
    cases q
  have look : ∀ b, entH K cs a vs ns b = none ∨ entH K cs a vs ns b = some (.tbl #[]) ∨ ∃ o xs, entH K cs a vs ns b = some (.frz o (.lst xs)) := fun b => by
    unfold entH
    split
    · exact .inr (.inr ⟨_, _, rfl⟩)
    · split
      · exact .inr (.inl rfl)
      · exact .inl rfl
  have trk : ∀ b, entH K cs a vs ns b ≠ none → (b = a ∧ K.lookup a = none) ∨ b ∈ cs.map (·.2) := fun b z => by
    unfold entH at z
    split at z
    · rename_i c; exact .inl c
    · split at z
      · rename_i c; exact .inr c
      · exact absurd rfl z
  have atT : ∀ p ∈ cs, entH K cs a vs ns p.2 = some (.tbl #[]) := fun p hp => by
    unfold entH
    rw [if_neg (fun z => aT (by rw [← z.1]; exact inT p hp)), if_pos (inT p hp)]
  have hok : HOk P w (entH K cs a vs ns) s₁.heap := fun b u z => by
    unfold entH at z
    split at z
    · rename_i c
      cases z
      rw [c.1]
      exact ⟨ha, by rw [List.length_map]; exact hl, vs, _, rv, ha⟩
    · split at z
      · rename_i c
        cases z
        exact isT b c
      · cases z
  have free : ∀ {b : Addr} {o : Obj}, s₁.heap.get? b = some o → (∀ us m, o.data ≠ .seq us m) → o.data ≠ .fields #[] → entH K cs a vs ns b = none := fun {b o} e n1 n2 => by
    cases q : entH K cs a vs ns b with
    | none => rfl
    | some u =>
      rcases trk b (by rw [q]; simp) with ⟨e', _⟩ | e'
      · rw [e', ha] at e
        cases e
        exact absurd rfl (n1 _ _)
      · rw [isT b e'] at e
        cases e
        exact absurd rfl n2
  have freeD : ∀ {b : Addr} {o : Obj} {es : Array DictEntry} {ep : Nat}, s₁.heap.get? b = some o → o.data = .dict es ep → entH K cs a vs ns b = none := fun {b o es ep} e d => free e (fun us m z => by rw [d] at z; cases z) (fun z => by rw [d] at z; cases z)
  have up : ∀ {b : Addr} {o : Obj}, s₁.heap.get? b = some o → entH K cs a vs ns b = none → (hidT s₁.heap (entH K cs a vs ns)).get? b = some o := fun e n => hidT_get e n
  have nsK : ∀ {b : Addr} {m : Str → Option Value}, s₁.heap.Ns b m → (hidT s₁.heap (entH K cs a vs ns)).Ns b m := fun {b m} ⟨o, es, ep, e, d, r⟩ => ⟨o, es, ep, up e (freeD e d), d, r⟩
  have kin : K.In (hidT s₁.heap (entH K cs a vs ns)) := fun b o e => up (KX b o e) (by
    cases q : entH K cs a vs ns b with
    | none => rfl
    | some u =>
      rcases trk b (by rw [q]; simp) with ⟨e1, e2⟩ | e'
      · rw [e1, e2] at e
        cases e
      · obtain ⟨p, hp, ep⟩ := List.mem_map.mp e'
        rw [← ep, nT p hp] at e
        cases e)
  have hM : L2.Mod K mg (hidT s₁.heap (entH K cs a vs ns)) := ⟨kin, nsK hns, ⟨mb, nsK hb, hbb⟩, let ⟨mc, h1, h2⟩ := hlim; ⟨mc, nsK h1, h2⟩⟩
  have TB : ∀ p ∈ cs, TabB (hidT s₁.heap (entH K cs a vs ns)) mg p.1 p.2 := fun p hp => by
    refine ⟨?_, ?_, fun z => ?_⟩
    · obtain ⟨o, us, file, tf, flags, tg, inF, text, tt, e1, r1, r2, r3, r4, r5, r6, r7, r8, ne⟩ := C p hp
      refine ⟨o, us, file, tf, flags, tg, inF, text, tt, up e1 (free e1 (fun vs n z => ?_) fun z => ?_), r1, r2, r3, r4, r5, r6, r7, r8, ne⟩
      · rw [r2] at z
        cases z
      · rw [r2] at z
        cases z
        simp at r3
    · obtain ⟨bm, ob, b1, b2, b3, b4, b5, b6⟩ := hbm
      have nG : bm ≠ mainGlobals := fun q => by
        obtain ⟨o, es, ep, e, hd, _⟩ := hns
        rw [q, e] at b3
        cases b3
        rw [hd] at b6
        cases b6
      have nP : bm ≠ p.2 := fun q => by
        rw [q, hT p hp] at b3
        cases b3
        cases b6
      exact ⟨bm, ob, b1, b2, nG, nP, up b3 (free b3 (fun vs n z => by rw [b6] at z; cases z) fun z => by rw [b6] at z; cases z), b4, b5, b6⟩
    · obtain ⟨o, es, ep, e, hd, _⟩ := hns
      rw [z, hT p hp] at e
      cases e
      cases hd
  refine ⟨_, entH K cs a vs ns, ⟨rfl, hM, fun b o e => of_hidT e, Nat.le_of_eq (hidT_size _ _), trivial, fun b hb => absurd (show b ∈ ([] : List Addr) from hb) (by simp), hok, .of_eq hg⟩, TB, atT, ?_, ?_, look, fun H' s' un hok' => ?_⟩
  · cases hk : K.lookup a with
    | some o =>
      have e := KX a o hk
      rw [ha] at e
      cases e
      exact .inr ⟨_, vs.toArray, _, hk, rfl, rfl, rfl, by rw [List.size_toArray, lenV]; exact hl, by simpa using rv⟩
    | none => exact .inl (.inr ⟨{ cls := .type "list", data := .seq vs.toArray }, by unfold entH; rw [if_pos ⟨rfl, hk⟩]⟩)
  · obtain ⟨o, e, es, n, d⟩ := hsy
    exact ⟨o, up e (freeD e d), es, n, d⟩
  · have keep : ∀ b o, b ∉ cs.map (·.2) → s₁.heap.get? b = some o → s'.heap.get? b = some o := fun b o nb e => by
      rcases look b with z | z | ⟨ob, xs, z⟩
      · exact un.keep b o e z (by intro y; exact absurd (show b ∈ ([] : List Addr) from y) (by simp)) (by simp)
      · rcases trk b (by rw [z]; simp) with ⟨e1, e2⟩ | e'
        · unfold entH at z
          rw [if_pos ⟨e1, e2⟩] at z
          cases z
        · exact absurd e' nb
      · have z2 := un.frzs b ob _ z
        obtain ⟨e1, _⟩ := hok b _ z
        obtain ⟨e2, _⟩ := hok' b _ z2
        rw [e] at e1
        cases e1
        exact e2
    have grown : ∀ p ∈ cs, ∃ more : Array Value, s'.heap.get? p.2 = some { cls := .none, data := .fields more } := fun p hp => by
      obtain ⟨more, z⟩ := un.tbls p.2 #[] (atT p hp)
      exact ⟨_, hok' p.2 _ z⟩
    refine ⟨fun b o e => ?_, fun b o e => ?_⟩
    · by_cases hb : b ∈ cs.map (·.2)
      · obtain ⟨p, hp, ep⟩ := List.mem_map.mp hb
        obtain ⟨more, hm⟩ := grown p hp
        rw [← ep] at e ⊢
        rw [hT p hp] at e
        cases e
        exact .inr (.inl ⟨((C p hp).tab (hT p hp)).isCodeTable, rfl, #[], more, rfl, by rw [Array.empty_append]; exact hm⟩)
      · exact .inl (keep b o hb e)
    · by_cases hb : b ∈ cs.map (·.2)
      · obtain ⟨p, hp, ep⟩ := List.mem_map.mp hb
        obtain ⟨more, hm⟩ := grown p hp
        rw [← ep]
        exact ⟨_, hm⟩
      · exact ⟨o, keep b o hb e⟩
end
/-- the head's hook: what stands written, the tables, the modules' own dict -/
def isDct : Option Obj → Bool
  | some ⟨.type c, _, .dict _ _, _⟩ => c != "list"
  | _ => false
def mnHook (K : Params → PySem.W.Frag) (as : List Addr) (e : ∀ P, as = (K P).map (·.1)) (ts : List Addr) (_ : Unit) : PySem.W.Hook where
  α := (List (Option Obj) × List (Option Obj)) × Bool
  obs := fun s => ((as.map s.heap.get?, ts.map s.heap.get?), isDct (s.heap.get? sysModules))
  val := fun w => (((K w.params).map fun p => some p.2, ts.map fun _ => some (PySem.W.tabObj #[])), true)
  says := fun w h => PySem.W.InK K w h ∧ (∀ P ∈ ts, h.get? P = some (PySem.W.tabObj #[])) ∧ ∃ o, h.get? sysModules = some o ∧ o.cls ≠ .type "list" ∧ ∃ es n, o.data = .dict es n
  of := fun w s x => by
    obtain ⟨x1, x2⟩ := Prod.mk.inj x
    refine ⟨PySem.W.InK.of e w s (Prod.mk.inj x1).1, List.map_inj_left.mp (Prod.mk.inj x1).2, ?_⟩
    cases q : s.heap.get? sysModules with
    | none => rw [q] at x2; cases x2
    | some o =>
      rw [q] at x2
      obtain ⟨c, d, dt, sl⟩ := o
      cases dt <;> first | (cases c <;> cases x2; done) | skip
      cases c <;> first | (cases x2; done) | skip
      refine ⟨_, rfl, fun z => ?_, _, _, rfl⟩
      cases z
      exact absurd (show (("list" : String) != "list") = true from x2) (by decide)
  keeps := fun w h h' x k => ⟨PySem.W.InK.keeps w h h' x.1 k, fun P hP => k _ _ (x.2.1 P hP), let ⟨o, e, r⟩ := x.2.2; ⟨o, k _ _ e, r⟩⟩
theorem mn_says {K : Params → PySem.W.Frag} {as : List Addr} {e : ∀ P, as = (K P).map (·.1)} {ts : List Addr} {w : World} {h : Heap} (Y : (mnHook K as e ts ()).says w h) :
    (K w.params).In h ∧ (∀ P ∈ ts, h.get? P = some (PySem.W.tabObj #[])) ∧ ∃ o, h.get? sysModules = some o ∧ o.cls ≠ .type "list" ∧ ∃ es n, o.data = .dict es n := Y
end Mn

-- Mn25
set_option Elab.async false
set_option linter.all false
set_option maxRecDepth 100000
set_option maxHeartbeats 2000000
set_option autoImplicit false
namespace Mn
open PySem PySem.Spec L2 PyProof.Rows LamX
/-- what a law's text gives, over the head's heap h: the tables cs, then, over each base, the world and the run -/
def LawAt (P : Program) (w : World) (K : PySem.W.Frag) (k n : Nat) (mg : Str → Option Value) (fa : Addr) (h : Heap) : Prop :=
  ∃ (cs : List (Addr × Addr)) (nm : Addr × Addr → Str), (∀ p ∈ cs, h.get? p.2 = some tab0) ∧ (∀ p ∈ cs, K.lookup p.2 = none) ∧ (∀ p ∈ cs, PySem.W.CodeHd h p.1 p.2) ∧
    ∀ base : Heap, K.In base → base.Ns mainGlobals mg → (∀ p ∈ cs, TabB base mg p.1 p.2) → (∃ o, base.get? sysModules = some o ∧ o.cls ≠ .type "list") →
      ∃ (Γ : Gam) (gv : Nat → V) (fA ca : Nat → Addr) (fns : List (Option Fn)) (tf : EO → Option EO) (gd : List Mn.D) (tsp : (XK → TE) → TE) (f : Nat),
        Law ⟨P, w, K, mg, base, Γ, cs.map fun p => (p.2, nm p), gv, fA, ca⟩ fns tf gd tsp ∧ fA f = fa ∧ f < Γ.fns.length ∧
        ∀ ns : List Int, ns.length ≤ n → (∀ z ∈ ns, Builtin.Int.intBits z ≤ 1048576) → ∃ ps, run fns tf gd k f [.val (.rol (ns.map D.int))] = some (.ret (.val (.bl true)) ps)
theorem rol_den {K : PySem.W.Frag} {G : Hp} {a : Addr} {ns : List Int} (h : SqL K G a (ns.map V.int)) : Den K G (.ref a) (.rol (ns.map D.int)) := .rol h (ints_den ns)
theorem law_run {P : Program} {w : World} {K : PySem.W.Frag} {mg mb : Str → Option Value} {k n : Nat} {fa a : Addr} {s₁ : Shared} {vs : List Value} {ns : List Int}
    (KX : K.In s₁.heap) (hns : s₁.heap.Ns mainGlobals mg) (hb : s₁.heap.Ns builtinsNs mb) (hbb : ∀ x : Str, x ≠ "__name__" → mb x = bootBuiltins x) (hlim : s₁.heap.NoLimit) (hg : s₁.gens = #[])
    (hbm : ∃ (bm : Addr) (ob : Obj), mg "__builtins__" = some (.ref bm) ∧ bm ≠ builtinsNs ∧ s₁.heap.get? bm = some ob ∧ ob.cls = .type "module" ∧ ob.dict = some builtinsNs ∧ ob.data = .plain)
    (ha : s₁.heap.get? a = some { cls := .type "list", data := .seq vs.toArray }) (hi : IntsAre vs ns) (hl : ns.length ≤ n) (hl2 : n ≤ sizeLine) (hbits : ∀ z ∈ ns, Builtin.Int.intBits z ≤ 1048576) (hr : Room (3 * k) callerA)
    (hsy : ∃ o, s₁.heap.get? sysModules = some o ∧ o.cls ≠ .type "list" ∧ ∃ es n, o.data = .dict es n) (L : LawAt P w K k n mg fa s₁.heap) :
    codeAny (model P w) callerA (.call (.ref fa) ⟨[.ref a], []⟩) (fun r s' => r = .ok (.ret (.bool true)) ∧ OldK s₁.heap s'.heap ∧ s'.os = s₁.os ∧ AllBare s'.gens) s₁ := by
  obtain ⟨cs, nm, hT, nT, C, F⟩ := L
  obtain ⟨osy, hs1, hs2, hs3⟩ := hsy
  obtain ⟨base, H, e0, TB, atT, sq, ⟨o, so, es, nn, sd⟩, look, last⟩ := law_env (P := P) (w := w) (vs := vs) KX hns hb hbb hlim hg hT nT C hbm ha hi (Nat.le_trans hl hl2) ⟨osy, hs1, hs3⟩
  have sys : ∃ o, base.get? sysModules = some o ∧ o.cls ≠ .type "list" := by
    refine ⟨o, so, ?_⟩
    have := (e0.bs _ _ so).1
    rw [hs1] at this
    cases this
    exact hs2
  obtain ⟨Γ, gv, fA, ca, fns, tf, gd, tsp, f, Lw, ef, hf, run_ok⟩ := F base e0.mod.kin e0.mod.glob TB sys
  obtain ⟨ps, er⟩ := run_ok ns hl hbits
  have FG := ((Lw.facts k).fns f hf).2.2
  have ef' : fA f = fa := ef
  let G : Hp := fun b => match H b with | some (.tbl _) => none | x => x
  have GH : ∀ b o, G b = some o ↔ H b = some o ∧ ∀ ps, o ≠ .tbl ps := fun b o => by
    show (match H b with | some (.tbl _) => none | x => x) = some o ↔ _
    cases q : H b with
    | none => simp
    | some u =>
      cases u <;> first
        | (simp only [Option.some.injEq]; constructor
           · intro z; subst z; exact ⟨rfl, fun ps z => by cases z⟩
           · intro z; exact z.1)
        | (constructor
           · intro z; cases z
           · intro z; exact absurd (Option.some.inj z.1).symm (z.2 _))
  have sqG : SqL K G a (ns.map V.int) := by
    rcases sq with (h | ⟨u, h⟩) | h
    · exact .inl (.inl ((GH _ _).mpr ⟨h, fun ps z => by cases z⟩))
    · exact .inl (.inr ⟨u, (GH _ _).mpr ⟨h, fun ps z => by cases z⟩⟩)
    · exact .inr h
  have R : Rel K (cs.map fun p => (p.2, nm p)) [.val (.rol (ns.map D.int))] ([V.ref a].map some) G H := by
    refine ⟨rfl, fun b o q => ((GH b o).mp q).1, fun b ps q => ((GH b _).mp q).2 ps rfl, fun p hp => ?_, fun i d q => ?_, fun i xs q => ?_, fun i j b ⟨⟨xs, q⟩, _⟩ _ => ?_⟩
    · obtain ⟨p', hp', rfl⟩ := List.mem_map.mp hp
      exact TabS.nil (atT p' hp')
    · cases i with
      | zero =>
        simp at q
        subst q
        exact ⟨_, rfl, rol_den sqG⟩
      | succ i => simp at q
    · cases i with
      | zero => rcases q with q | q <;> simp at q
      | succ i => rcases q with q | q <;> simp at q
    · cases i with
      | zero => rcases q with q | q <;> simp at q
      | succ i => rcases q with q | q <;> simp at q
  have z := FG callerA [] s₁ H [.ref a] [.ref a] (fun v _ => v = .bl true) (fun _ _ _ => False) hr rfl e0 (.cons rfl .nil) ⟨_, G, _, er, R, fun v G' H' _ _ rv => by
    have rv : Den K G' v (.bl true) := rv
    cases rv
    rfl⟩
  rw [show (Wd.fa ⟨P, w, K, mg, base, Γ, cs.map fun p => (p.2, nm p), gv, fA, ca⟩ f) = fa from ef'] at z
  refine codeAny_mono z fun r s' h => ?_
  cases r with
  | error e =>
    obtain ⟨_, _, _, _, _, _, _, _, _, _, _, _, he⟩ := h
    exact he.elim
  | ok fl =>
    cases fl with
    | next => exact False.elim h
    | brk => exact False.elim h
    | cont => exact False.elim h
    | ret u =>
      obtain ⟨v, H', os, bare, un, hok', r', q⟩ := h
      have q' : v = .bl true := q
      subst q'
      obtain rfl : u = Value.bool true := r'
      exact ⟨rfl, last H' s' un hok', os, bare⟩
theorem mn_walk {l : PySem.W.OpenLaw} {n k : Nat} {q : Program} {loose : List Str} {XP : (Str → Option Value) → Heap → Prop} {YP : World → Heap → Prop} {d : DefRec} {K : Params → PySem.W.Frag}
    (hn : l.most = some n) (hn2 : n ≤ sizeLine) (hdf : d.params.defaults = []) (hr : Room (3 * k) callerA)
    (hY : ∀ (w : World) (h : Heap), YP w h → (K w.params).In h ∧ ∃ o, h.get? sysModules = some o ∧ o.cls ≠ .type "list" ∧ ∃ es n, o.data = .dict es n)
    (F : ∀ (w : World) (mg : Str → Option Value) (fa : Addr) (h : Heap), YP w h → (K w.params).In h → h.Ns mainGlobals mg → mg d.name = some (.ref fa) → LawAt l.prog w (K w.params) k n mg fa h) :
    PySem.W.WalkO q loose XP YP l.row.toRowW d [] (fun f vs => PySem.call f vs) := by
  refine Att.attach_callB hn hdf fun w s₀ s₁ mg mb fa o pm cd doc a vs ns G Y ho hd hcd hmg hobj hints hlen hbits hg => ?_
  obtain ⟨KX, sys⟩ := hY w _ Y
  exact law_run KX G.T.g G.T.b G.T.builtins G.T.nolimit hg G.T.bmain hobj hints hlen hn2 hbits hr sys (F w mg fa _ Y KX G.T.g hmg)
end Mn

-- Mn26
set_option Elab.async false
set_option linter.all false
set_option maxRecDepth 100000
set_option maxHeartbeats 2000000
set_option autoImplicit false
namespace Mn
open PySem PySem.Spec L2 PyProof.Rows
open He (ga ma fAd eqO eqO_ok ba cT)
/-! ## the end of a law: what the head's hook tells -/
theorem mn_walkX {l : PySem.W.OpenLaw} {n k : Nat} {q : Program} {loose : List Str} {XP : (Str → Option Value) → Heap → Prop} {YP : World → Heap → Prop} {d : DefRec}
    (hn : l.most = some n) (hn2 : n ≤ sizeLine) (hdf : d.params.defaults = []) (hr : Room (3 * k) callerA)
    (F : ∀ (w : World) (mg : Str → Option Value) (fa : Addr) (h : Heap), YP w h → h.Ns mainGlobals mg → mg d.name = some (.ref fa) →
      ∃ K : PySem.W.Frag, K.In h ∧ (∃ o, h.get? sysModules = some o ∧ o.cls ≠ .type "list" ∧ ∃ es n, o.data = .dict es n) ∧ LawAt l.prog w K k n mg fa h) :
    PySem.W.WalkO q loose XP YP l.row.toRowW d [] (fun f vs => PySem.call f vs) := by
  refine Att.attach_callB hn hdf fun w s₀ s₁ mg mb fa o pm cd doc a vs ns G Y ho hd hcd hmg hobj hints hlen hbits hg => ?_
  obtain ⟨K, KX, sys, L⟩ := F w mg fa _ Y G.T.g hmg
  exact law_run KX G.T.g G.T.b G.T.builtins G.T.nolimit hg G.T.bmain hobj hints hlen hn2 hbits hr sys L
/-- the head's hook: HandS's facts, and the modules' own dict -/
def sysB (g : Addr → Option Obj) : Bool := isDct (g sysModules)
def obsM (n : Nat) (fa : List He.Fa) (fn : List He.DefD) (tf : List He.Defn) (ex : PySem.W.Frag → Bool) (g : Addr → Option Obj) : He.AlX × Bool := (He.obsX n fa fn [] tf ex g, sysB g)
theorem isDct_ok {x : Option Obj} (h : isDct x = true) : ∃ o, x = some o ∧ o.cls ≠ .type "list" ∧ ∃ es n, o.data = .dict es n := by
  cases x with
  | none => cases h
  | some o =>
    obtain ⟨c, d, dt, sl⟩ := o
    cases dt <;> first | (cases c <;> cases h; done) | skip
    cases c <;> first | (cases h; done) | skip
    refine ⟨_, rfl, fun z => ?_, _, _, rfl⟩
    cases z
    exact absurd (show (("list" : String) != "list") = true from h) (by decide)
def hookM (n : Nat) (fa : List He.Fa) (fn : List He.DefD) (tf : List He.Defn) (ex : PySem.W.Frag → Bool) : PySem.W.Hook where
  α := He.AlX × Bool
  obs := fun s => obsM n fa fn tf ex s.heap.get?
  val := fun w => (He.valX fn [] w, true)
  says := fun w h => ∃ K : PySem.W.Frag, K.In h ∧ He.SaysX fa fn [] tf ex w h K ∧ ∃ o, h.get? sysModules = some o ∧ o.cls ≠ .type "list" ∧ ∃ es n, o.data = .dict es n
  of := fun _ _ e => ⟨_, He.frT_in, He.saysX_of (Prod.mk.inj e).1, isDct_ok (Prod.mk.inj e).2⟩
  keeps := fun _ _ _ ⟨K, hK, c, o, e, r⟩ k => ⟨K, PySem.W.Frag.In.keeps hK k, ⟨c.t, c.more, c.hd, c.out, fun p hp => k _ _ (c.empty p hp)⟩, o, k _ _ e, r⟩
theorem obsM_eq {n : Nat} {fa : List He.Fa} {fn : List He.DefD} {tf : List He.Defn} {ex : PySem.W.Frag → Bool} {g : Addr → Option Obj} {s : Shared} (h : ∀ a, g a = s.heap.get? a) : obsM n fa fn tf ex g = (hookM n fa fn tf ex).obs s := by
  have e : g = s.heap.get? := funext h
  rw [e] <;> rfl
/-! ### built-in names are not bound -/
def isTyV : Option Value → Bool
  | some (.type _) => true
  | _ => false
def gfB (K : PySem.W.Frag) : Bool := match K.lookup mainGlobals with
  | some ⟨_, _, .dict es _, _⟩ => es.toList.all fun e => match e.key with
    | .str y _ => (bootBuiltins y).isNone || decide (y ∈ bootMainNames)
    | _ => false
  | _ => false
theorem gf_ok {K : PySem.W.Frag} {h : Heap} {mg : Str → Option Value} (X : K.In h) (G : h.Ns mainGlobals mg) (c : gfB K = true) {x : Str} (hb : bootBuiltins x ≠ none) (hx : x ∉ bootMainNames) : mg x = none := by
  obtain ⟨o, es, ep, ho, hd, _, hf⟩ := G
  unfold gfB at c
  split at c
  · rename_i cc d es' n' sl q
    have := X _ _ q
    rw [ho] at this
    cases this
    cases hd
    rw [← hf]
    unfold nsFind findBy
    rw [← Array.find?_toList]
    cases z : es.toList.find? (fun e => e.key.isStr x) with
    | none => rfl
    | some e =>
      have h1 := List.mem_of_find?_eq_some z
      have h2 := List.find?_some z
      have h3 := List.all_eq_true.mp c e h1
      cases ek : e.key with
      | str y t =>
        rw [ek] at h2 h3
        have e1 : y = x := by
          have : (y == x) = true := h2
          exact eq_of_beq this
        subst e1
        have h4 : ((bootBuiltins y).isNone || decide (y ∈ bootMainNames)) = true := h3
        rcases Bool.or_eq_true_iff.mp h4 with h5 | h5
        · exact absurd (Option.isNone_iff_eq_none.mp h5) hb
        · exact absurd (of_decide_eq_true h5) hx
      | _ => rw [ek] at h3; cases h3
  · cases c
theorem main_noTy : ∀ y ∈ bootMainNames, isTyV (bootBuiltins y) = false := by decide +kernel
theorem gf_ty {K : PySem.W.Frag} {h : Heap} {mg : Str → Option Value} (X : K.In h) (G : h.Ns mainGlobals mg) (c : gfB K = true) (t : String) (hb : bootBuiltins (Str.ofString t) = some (.type t)) : mg (Str.ofString t) = none := by
  refine gf_ok X G c (by rw [hb]; simp) fun z => ?_
  have := main_noTy _ z
  rw [hb] at this
  cases this
theorem bi_boot (b : Bi) : bootBuiltins b.nm ≠ none ∧ b.nm ∉ bootMainNames := by
  have q : ∀ x ∈ ([Bi.len.nm, Bi.abs.nm, Bi.max.nm, Bi.min.nm, Bi.int.nm, Bi.divmod.nm, Bi.repr.nm, Bi.all.nm, Bi.any.nm, Bi.sorted.nm, Bi.tuple.nm, Bi.list.nm] : List Str), ((bootBuiltins x).isSome && !decide (x ∈ bootMainNames)) = true := by decide +kernel
  have : ((bootBuiltins b.nm).isSome && !decide (b.nm ∈ bootMainNames)) = true := q _ (by cases b <;> simp)
  obtain ⟨h1, h2⟩ := ba this
  exact ⟨fun z => (by rw [z] at h1; cases h1), fun z => (by rw [decide_eq_true z] at h2; cases h2)⟩
theorem nm_boot : ∀ x ∈ (["isinstance", "range", "set", "repr", "ValueError"] : List Str), ((bootBuiltins x).isSome && !decide (x ∈ bootMainNames)) = true := by decide +kernel
theorem gf_nm {K : PySem.W.Frag} {h : Heap} {mg : Str → Option Value} (X : K.In h) (G : h.Ns mainGlobals mg) (c : gfB K = true) {x : Str} (hx : x ∈ (["isinstance", "range", "set", "repr", "ValueError"] : List Str)) : mg x = none := by
  obtain ⟨h1, h2⟩ := ba (nm_boot x hx)
  exact gf_ok X G c (fun z => (by rw [z] at h1; cases h1)) fun z => (by rw [decide_eq_true z] at h2; cases h2)
/-! ### globals of the text -/
inductive GlD where
  | str (z : Str) | int (i : Int) | tup (zs : List Str)
def GlD.d : GlD → D
  | .str z => .str z
  | .int i => .int i
  | .tup zs => .tup (zs.map .str)
def GlD.v (K : PySem.W.Frag) (x : Str) : GlD → V
  | .str z => .str z
  | .int i => .int i
  | .tup _ => .ref (ga K x)
def GlD.ok (K : PySem.W.Frag) (x : Str) : GlD → Bool
  | .str z => (He.Fa.str x z).ok K
  | .int i => (He.Fa.int x i).ok K
  | .tup zs => (He.Fa.glo x).ok K && He.tupB K x (zs.map .str)
theorem strs_den {K : PySem.W.Frag} {G : Hp} : ∀ zs : List Str, DenL K G ((zs.map He.Dv.str).map (He.Dv.v K)) (zs.map .str)
  | [] => .nil
  | z :: zs => .cons (.str z) (strs_den zs)
theorem GlD.mg_ok {K : PySem.W.Frag} {h : Heap} {mg : Str → Option Value} (X : K.In h) (G : h.Ns mainGlobals mg) {x : Str} {g : GlD} (c : g.ok K x = true) : ∃ u, mg x = some u ∧ RelV (g.v K x) u := by
  cases g with
  | str z =>
    obtain ⟨t, e⟩ := He.str_ok X G c
    exact ⟨_, e, t, rfl⟩
  | int i =>
    obtain ⟨t, e⟩ := He.int_ok X G c
    exact ⟨_, e, t, rfl⟩
  | tup zs => exact ⟨_, He.glo_ok X G (ba c).1, rfl⟩
theorem GlD.den {K : PySem.W.Frag} {x : Str} {g : GlD} (c : g.ok K x = true) (G : Hp) : Den K G (g.v K x) g.d := by
  cases g with
  | str z => exact .str z
  | int i => exact .int i
  | tup zs => exact .tup (He.tupB_ok (ba c).2 G) (strs_den zs)
/-! ### errors -/
def oexB (K : PySem.W.Frag) (C : Addr) : Bool := (match K.lookup C with
  | some ⟨.type c, _, .cls cd, sl⟩ => (match cd.mro, sl.toList with
    | .ref C' :: bm, [_, _, _, _, some (.builtin n), _] => decide (c = "type") && (decide (C' = C) && (decide (n = "ValueError.__new__") && (!cd.hasDel && (cd.hasDict && PySem.HandSPX.refsVE bm))))
    | _, _ => false)
  | _ => false) && (eqO (PySem.W.findIn K (.ref C) "__setattr__") (some (some (.builtin "object.__setattr__"))) && (decide (PySem.W.subIn K (.ref C) (.type "BaseException") = some true) && (decide (PySem.W.typeIn K (.ref C) = some (.type "type")) && PySem.W.keepIn K (.ref C))))
theorem oexB_ok {K : PySem.W.Frag} {C : Addr} (h : oexB K C = true) : OexC K C := by
  obtain ⟨h0, h⟩ := ba h
  obtain ⟨h1, h⟩ := ba h
  obtain ⟨h2, h⟩ := ba h
  obtain ⟨h3, h4⟩ := ba h
  refine ⟨?_, eqO_ok h1, of_decide_eq_true h2, of_decide_eq_true h3, h4⟩
  split at h0
  · rename_i c dd cd sl q
    split at h0
    · rename_i C' bm k0 k1 k2 k3 n k5 hm hs
      obtain ⟨e1, h0⟩ := ba h0
      obtain ⟨e2, h0⟩ := ba h0
      obtain ⟨e3, h0⟩ := ba h0
      obtain ⟨e4, h0⟩ := ba h0
      obtain ⟨e5, e6⟩ := ba h0
      have e1 := of_decide_eq_true e1
      have e2 := of_decide_eq_true e2
      have e3 := of_decide_eq_true e3
      obtain ⟨a1, a2, a3, a4, a5, a6, a7, a8, a9, a10, a11⟩ := cd
      have e4' : a11 = false := by simpa using e4
      have e5' : a6 = true := e5
      have hm' : a3 = .ref C' :: bm := hm
      clear hm e4 e5
      subst e1 e2 e3 hm' e4' e5'
      have es : sl = #[k0, k1, k2, k3, some (.builtin "ValueError.__new__"), k5] := by
        have := congrArg List.toArray hs
        simpa using this
      rw [es] at q
      exact ⟨_, _, _, _, _, _, _, _, _, _, _, _, _, _, _, q, e6⟩
    · cases h0
  · cases h0
def excB (K : PySem.W.Frag) (D : Addr) : Bool := decide (PySem.W.findIn K (.ref D) "__getattribute__" = some (some (.builtin "BaseException.__getattribute__"))) && (decide (PySem.W.findIn K (.ref D) "__getattr__" = some none) && (decide (PySem.W.subIn K (.ref D) (.type "BaseException") = some true) && (PySem.W.hasDictIn K D &&
  (decide (PySem.W.findIn K (.ref D) "__class__" = some (some (.builtin "object.__class__"))) && (decide (PySem.W.specialIn K (.builtin "object.__class__") "__get__" = some (some (.builtin "getset_descriptor.__get__"))) && (decide (PySem.W.takesIn K (.builtin "object.__class__") = some true) && decide (PySem.W.mroIn K D (.type "object") = some true)))))))
theorem excB_ok {K : PySem.W.Frag} {C : Addr} (h : excB K C = true) : ExcC K C := by
  obtain ⟨h1, h⟩ := ba h
  obtain ⟨h2, h⟩ := ba h
  obtain ⟨h3, h⟩ := ba h
  obtain ⟨h4, h⟩ := ba h
  obtain ⟨h5, h⟩ := ba h
  obtain ⟨h6, h⟩ := ba h
  obtain ⟨h7, h8⟩ := ba h
  exact ⟨of_decide_eq_true h1, of_decide_eq_true h2, of_decide_eq_true h3, h4, of_decide_eq_true h5, of_decide_eq_true h6, of_decide_eq_true h7, of_decide_eq_true h8⟩
/-- the error x, its base hld -/
def errB (K : PySem.W.Frag) (hld x : Str) : Bool := (He.Fa.glo x).ok K && (oexB K (ga K x) && (eqO (PySem.W.findIn K (.ref (ga K x)) "value") (some none) && (eqO (PySem.W.findIn K (.ref (ga K x)) "__init__") (some (some (.ref (fAd K (hld, some "__init__"))))) && (decide (PySem.W.typeIn K (.ref (fAd K (hld, some "__init__"))) = some (.type "function")) &&
  (xfB K (ga K x) && (excB K (ga K x) && (decide (PySem.W.kitOne K (.ref (ga K x)) (.ref (ga K hld)) = some true) && decide (PySem.W.kitOne K (.ref (ga K x)) (.type "ValueError") = some true))))))))
structure ErrF (K : PySem.W.Frag) (hld x : Str) : Prop where
  glo : (He.Fa.glo x).ok K = true
  oex : OexC K (ga K x)
  val : PySem.W.findIn K (.ref (ga K x)) "value" = some none
  ini : PySem.W.findIn K (.ref (ga K x)) "__init__" = some (some (.ref (fAd K (hld, some "__init__"))))
  ity : PySem.W.typeIn K (.ref (fAd K (hld, some "__init__"))) = some (.type "function")
  xf : XfC K (ga K x)
  exc : ExcC K (ga K x)
  k1 : PySem.W.kitOne K (.ref (ga K x)) (.ref (ga K hld)) = some true
  k2 : PySem.W.kitOne K (.ref (ga K x)) (.type "ValueError") = some true
theorem errB_ok {K : PySem.W.Frag} {hld x : Str} (h : errB K hld x = true) : ErrF K hld x := by
  obtain ⟨h1, h⟩ := ba h
  obtain ⟨h2, h⟩ := ba h
  obtain ⟨h3, h⟩ := ba h
  obtain ⟨h4, h⟩ := ba h
  obtain ⟨h5, h⟩ := ba h
  obtain ⟨h6, h⟩ := ba h
  obtain ⟨h7, h⟩ := ba h
  obtain ⟨h8, h9⟩ := ba h
  exact ⟨h1, oexB_ok h2, eqO_ok h3, eqO_ok h4, of_decide_eq_true h5, xfB_ok h6, excB_ok h7, of_decide_eq_true h8, of_decide_eq_true h9⟩
def emB (K : PySem.W.Frag) (xs : List Str) : Bool := xs.all fun x => xs.all fun y => decide (PySem.W.exmOne K (.ref (ga K x)) (.ref (ga K y)) = some (decide (x = y)))
theorem emB_ok {K : PySem.W.Frag} {xs : List Str} (h : emB K xs = true) {x y : Str} (hx : x ∈ xs) (hy : y ∈ xs) : PySem.W.exmOne K (.ref (ga K x)) (.ref (ga K y)) = some (decide (x = y)) :=
  of_decide_eq_true (List.all_eq_true.mp (List.all_eq_true.mp h x hx) y hy)
/-- __init__(self, value = None): self.value = value -/
theorem ini_of {Ω : Wd} {fI : Addr} {fd : FuncData} {qual : Str} {st : Stmt} {p1 p2 p3 p4 : Pos} (F : FunD Ω.K "__init__" qual (defArgs st) (defBody st) (defScope st) [.non] [] fI fd) (eb : defBody st = [.Assign [.Attribute (.Name "self" p1) "value" p2] (.Name "value" p3) p4]) (S : FnScope ["self", "value"] ["self", "value"] (defScope st))
    (h : ∀ (T : Addr) (kV doc pm : Value) (an : Option Addr) (cdv ct : Value) (us its : List Value), us.length = 2 → its.length = 1 →
      ∃ k, bindArgs (PySem.W.fnOf "__init__" qual (defArgs st) (defBody st) (defScope st) (.ref T) kV doc pm an cdv ct) ⟨us, []⟩ = seqItems? (.ref T) >>= k ∧ k (some its.toArray) = pure ((["self", "value"] : List Str).zip (us ++ its.drop 1))) : IniOk Ω fI := by
  obtain ⟨ds, hv, hB⟩ := FunD.binds1 (ps := ["self", "value"]) F 2 1 (by simp) rfl h
  have e : ds = [] := by
    have : Vals ([V.non].drop 1) ds := hv
    cases this
    rfl
  subst e
  obtain ⟨oc, od, dV, kV, doc, pm, an, cdv, ct, osl, rfl, lk, hcd, hD, hK⟩ := F.ex
  rw [eb] at lk hB
  exact ⟨qual, _, _, dV, kV, doc, pm, cdv, ct, oc, an, od, osl, p1, p2, p3, p4, lk, hcd, S, hB⟩
end Mn

-- Mn27
set_option Elab.async false
set_option linter.all false
set_option maxRecDepth 100000
set_option maxHeartbeats 2000000
set_option autoImplicit false
namespace Mn
open PySem PySem.Spec L2 PyProof.Rows
open He (ga ma fAd eqO eqO_ok ba cT)
/-! ## a law's text: its defs -/
structure DefI (Γ : Gam) where
  x : Str
  st : Stmt
  F : Fn
  N : List Str
  ps : List Str
  lm : Bool
  ks : List (List Str)
  S : FnScope N ps (defScope st)
  wf : wfSs Γ N ⟨defScope st, lm⟩ F.body = true
  eb : upSs Γ N F.body = defBody st
  ns : N.length = F.ns
  np : ps.length = F.np
  bo : ∀ (kV doc pm : Value) (an : Option Addr) (cdv ct : Value), BindOk (PySem.W.fnOf x x (defArgs st) (defBody st) (defScope st) .none kV doc pm an cdv ct) F.star ps ks
def DefI.d {Γ : Gam} (i : DefI Γ) : He.DefD := ⟨(i.x, none), i.x, i.x, defArgs i.st, defBody i.st, defScope i.st, [], []⟩
/-- the lambdas' name of the def x -/
abbrev lamN (x : Str) : Str := x ++ ".<locals>." ++ "<lambda>"
theorem def_mk {Ω : Wd} (i : DefI Ω.Γ) {a : Addr} {fd : FuncData} (F : FunD Ω.K i.x i.x (defArgs i.st) (defBody i.st) (defScope i.st) [] [] a fd) (ha : fAd Ω.K (i.x, none) = a)
    (hl : i.lm = true → LamX.TabB Ω.base Ω.mg (cT Ω.K (i.x, none)).1 (cT Ω.K (i.x, none)).2 ∧ ((cT Ω.K (i.x, none)).2, lamN i.x) ∈ Ω.T ∧ ∀ p ∈ Ω.T, p.1 = (cT Ω.K (i.x, none)).2 → p.2 = lamN i.x) :
    DefOk Ω i.x a i.F i.N i.ps (defScope i.st) i.lm i.ks := by
  obtain ⟨oc, od, dV, kV, doc, pm, an, cdv, ct, osl, rfl, lk, hcd, hD, hK⟩ := F.ex
  obtain rfl : dV = .none := by
    rcases hD with ⟨_, e⟩ | ⟨e, _⟩
    · exact e
    · exact absurd rfl e
  refine ⟨i.S, i.wf, i.ns, i.np, defArgs i.st, .none, kV, doc, pm, cdv, ct, oc, an, od, osl, ?_, hcd, ?_, fun z => ?_⟩
  · rw [i.eb]
    exact lk
  · rw [i.eb]
    exact i.bo kV doc pm an cdv ct
  · obtain ⟨c, e⟩ := He.codeIn_ref hcd
    subst e
    obtain ⟨h1, h2, h3⟩ := hl z
    have e : (cT Ω.K (i.x, none)).1 = c := He.codeOf_eq (by rw [ha]; exact lk) rfl
    rw [e] at h1
    exact ⟨c, _, rfl, h1, h2, h3⟩
/-- all that stands written of a law -/
structure Txt where
  Γ : Gam
  dis : List (Option (DefI Γ))
  gl : List GlD
  hld : Str
  hc : gname Γ.fns 0 = gname Γ.fns 0 := by rfl
def Txt.fns (t : Txt) : List (Option Fn) := t.dis.map fun o => o.map (·.F)
def Txt.gd (t : Txt) : List D := t.gl.map (·.d)
def Txt.fa (t : Txt) : List He.Fa := t.Γ.fns.map He.Fa.glo
def Txt.fn (t : Txt) : List He.DefD := t.dis.filterMap fun o => o.map (·.d)
def Txt.tf (t : Txt) : List He.Defn := t.dis.filterMap fun o => match o with
  | some i => if i.lm then some (i.x, none) else none
  | none => none
def Txt.ex (t : Txt) (K : PySem.W.Frag) : Bool := gfB K && (((t.Γ.gls.zip t.gl).all fun p => p.2.ok K p.1) && (decide ((t.tf.map fun p => (cT K p).2).Nodup) && ((He.Fa.glo t.hld).ok K && ((t.Γ.cls.all fun x => errB K t.hld x) && emB K t.Γ.cls))))
def Txt.W (t : Txt) (P : Program) (w : World) (K : PySem.W.Frag) (mg : Str → Option Value) (base : Heap) : Wd :=
  ⟨P, w, K, mg, base, t.Γ, t.tf.map fun p => ((cT K p).2, lamN p.1), fun g => (t.gl.getD g (.int 0)).v K (gname t.Γ.gls g), fun f => ga K (gname t.Γ.fns f), fun c => ga K (gname t.Γ.cls c)⟩
/-- what fits together of it, looked at once -/
structure Txt.Ok (t : Txt) : Prop where
  nm : t.dis.map (fun o => match o with | some i => i.x | none => t.Γ.told) = t.Γ.fns
  ks : ∀ (f : Nat) (i : DefI t.Γ), t.dis[f]? = some (some i) → (t.Γ.kws.filter fun p => p.1 == f).map (·.2) = i.ks
  gl : t.gl.length = t.Γ.gls.length
  cn : t.Γ.cls.Nodup
section
variable {t : Txt} {P : Program} {w : World} {K : PySem.W.Frag} {h base : Heap} {mg : Str → Option Value} {fa : List He.Fa} {fn : List He.DefD}
theorem dis_nm (o : t.Ok) {f : Nat} {i : DefI t.Γ} (e : t.dis[f]? = some (some i)) : gname t.Γ.fns f = i.x := by
  unfold gname
  rw [← o.nm, List.getD_eq_getElem?_getD, List.getElem?_map, e]
  rfl
theorem tf_mem {i : DefI t.Γ} {f : Nat} (e : t.dis[f]? = some (some i)) (hl : i.lm = true) : (i.x, none) ∈ t.tf := by
  unfold Txt.tf
  rw [List.mem_filterMap]
  exact ⟨some i, List.mem_of_getElem? e, by simp [hl]⟩
theorem tf_none {p : He.Defn} (h : p ∈ t.tf) : p.2 = none := by
  unfold Txt.tf at h
  obtain ⟨o, _, e⟩ := List.mem_filterMap.mp h
  cases o with
  | none => cases e
  | some i =>
    simp only at e
    split at e
    · cases e; rfl
    · cases e
theorem nodup_map_inj {α β : Type} {f : α → β} : ∀ {l : List α}, (l.map f).Nodup → ∀ {a b : α}, a ∈ l → b ∈ l → f a = f b → a = b
  | [], _, a, b, ha, _, _ => by cases ha
  | x :: l, h, a, b, ha, hb, e => by
    rw [List.map_cons, List.nodup_cons] at h
    rcases List.mem_cons.mp ha with ea | ma
    · rcases List.mem_cons.mp hb with eb | mb
      · rw [ea, eb]
      · exact absurd (List.mem_map.mpr ⟨b, mb, by rw [← e, ea]⟩) h.1
    · rcases List.mem_cons.mp hb with eb | mb
      · exact absurd (List.mem_map.mpr ⟨a, ma, by rw [e, eb]⟩) h.1
      · exact nodup_map_inj h.2 ma mb e
theorem dfs_of (o : t.Ok) (c : He.SaysD fa fn K) (hfn : ∀ i, some i ∈ t.dis → i.d ∈ fn) (hnd : (t.tf.map fun p => (cT K p).2).Nodup) (TB : ∀ p ∈ t.tf, LamX.TabB base mg (cT K p).1 (cT K p).2) (f : Nat) (F : Fn) (e : t.fns[f]? = some (some F)) :
    ∃ N ps sc lm, DefOk (t.W P w K mg base) (gname t.Γ.fns f) (ga K (gname t.Γ.fns f)) F N ps sc lm ((t.Γ.kws.filter fun p => p.1 == f).map (·.2)) := by
  unfold Txt.fns at e
  rw [List.getElem?_map] at e
  obtain ⟨oi, e1, e2⟩ := Option.map_eq_some_iff.mp e
  obtain ⟨i, rfl, e3⟩ := Option.map_eq_some_iff.mp e2
  rw [dis_nm o e1, o.ks f i e1]
  obtain ⟨fd, FD⟩ := c.defs (hfn i (List.mem_of_getElem? e1))
  subst e3
  refine ⟨i.N, i.ps, _, i.lm, def_mk (Ω := t.W P w K mg base) i FD rfl fun z => ?_⟩
  have hm := tf_mem e1 z
  refine ⟨TB _ hm, List.mem_map.mpr ⟨_, hm, rfl⟩, fun p hp ep => ?_⟩
  obtain ⟨q, hq, rfl⟩ := List.mem_map.mp hp
  have : q = (i.x, none) := nodup_map_inj hnd hq hm ep
  rw [this]
theorem gl_of2 (hg : ((t.Γ.gls.zip t.gl).all fun p => p.2.ok K p.1) = true) (o : t.Ok) {g : Nat} (hl : g < t.Γ.gls.length) : ∃ d, t.gl[g]? = some d ∧ d.ok K (gname t.Γ.gls g) = true := by
  have h2 : g < t.gl.length := by rw [o.gl]; exact hl
  refine ⟨t.gl[g], List.getElem?_eq_getElem h2, ?_⟩
  have := List.all_eq_true.mp hg (t.Γ.gls[g], t.gl[g]) (List.mem_iff_getElem.mpr ⟨g, by rw [List.length_zip]; omega, by rw [List.getElem_zip]⟩)
  unfold gname
  rw [List.getD_eq_getElem?_getD, List.getElem?_eq_getElem hl]
  exact this
/-- the law's own part of the end: told's promise; all else comes from the text -/
theorem law_mk (o : t.Ok) (X : K.In h) (G : h.Ns mainGlobals mg) (Xb : K.In base) (Gb : base.Ns mainGlobals mg) (c : He.SaysD fa fn K) (hfn : ∀ i, some i ∈ t.dis → i.d ∈ fn) (hfa : ∀ x ∈ t.Γ.fns, He.Fa.glo x ∈ fa) (ex : t.ex K = true)
    (kp : ∀ f, f < t.Γ.fns.length → PySem.W.keepIn K (.ref (ga K (gname t.Γ.fns f))) = true)
    (TB : ∀ p ∈ t.tf, LamX.TabB base mg (cT K p).1 (cT K p).2) (sys : ∃ o, base.get? sysModules = some o ∧ o.cls ≠ .type "list") (ini : IniOk (t.W P w K mg base) (fAd K (t.hld, some "__init__")))
    {tf : EO → Option EO} {tsp : (XK → TE) → TE} (tl : ∀ N lv, TellOk (t.W P w K mg base) N lv tsp)
    (td : ∀ (n : Nat) (tt : XK → TE) (W : WX) (δ : List Sl) (o o' : EO), (∀ E : XK, SE (t.W P w K mg base) (tt E) (fun c d _ H => E c d H) n δ o) → tf o = some o' → SE (t.W P w K mg base) (tsp tt) W n δ o') :
    Law (t.W P w K mg base) t.fns tf t.gd tsp := by
  obtain ⟨g1, ex⟩ := ba ex
  obtain ⟨g2, ex⟩ := ba ex
  obtain ⟨g3, ex⟩ := ba ex
  obtain ⟨g4, ex⟩ := ba ex
  obtain ⟨g5, g6⟩ := ba ex
  refine ⟨fun g hg => ?_, fun b => gf_ok X G g1 (bi_boot b).1 (bi_boot b).2, gf_nm X G g1 (by simp), gf_nm X G g1 (by simp), gf_nm X G g1 (by simp), sys, gf_ty X G g1, fun f hf => ⟨?_, kp f hf⟩, dfs_of o c hfn (of_decide_eq_true g3) TB, tl, rai_ok fun cc hcc => ?_, fun g d e H => ?_, td⟩
  · obtain ⟨d, e, ok⟩ := gl_of2 g2 o hg
    obtain ⟨u, e1, e2⟩ := GlD.mg_ok X G ok
    refine ⟨u, e1, ?_⟩
    show RelV ((t.gl.getD g (.int 0)).v K _) u
    rw [List.getD_eq_getElem?_getD, e]
    exact e2
  · refine He.glo_ok X G (c.facts (hfa _ ?_))
    have hf : f < t.Γ.fns.length := hf
    show gname t.Γ.fns f ∈ t.Γ.fns
    unfold gname
    rw [List.getD_eq_getElem?_getD, List.getElem?_eq_getElem hf]
    exact List.getElem_mem hf
  · have hcc : cc < t.Γ.cls.length := hcc
    have hm : gname t.Γ.cls cc ∈ t.Γ.cls := by
      unfold gname
      rw [List.getD_eq_getElem?_getD, List.getElem?_eq_getElem hcc]
      exact List.getElem_mem hcc
    have E := errB_ok (List.all_eq_true.mp g5 _ hm)
    exact ⟨He.glo_ok X G E.glo, E.oex, E.val, _, E.ini, E.ity, ini⟩
  · unfold Txt.gd at e
    rw [List.getElem?_map] at e
    obtain ⟨gg, e1, e2⟩ := Option.map_eq_some_iff.mp e
    have hl : g < t.Γ.gls.length := by
      rw [← o.gl]
      exact (List.getElem?_eq_some_iff.mp e1).1
    obtain ⟨d', e3, ok⟩ := gl_of2 g2 o hl
    rw [e1] at e3
    cases e3
    subst e2
    show Den K H ((t.gl.getD g (.int 0)).v K _) gg.d
    rw [List.getD_eq_getElem?_getD, e1]
    exact GlD.den ok H
end
end Mn

-- Mn28
set_option Elab.async false
set_option linter.all false
set_option maxRecDepth 100000
set_option maxHeartbeats 2000000
set_option autoImplicit false
namespace Mn
open PySem PySem.Spec L2 PyProof.Rows
open He (ga ma fAd eqO eqO_ok ba cT)
/-- the text of the def that tells -/
structure TldI (Γ : Gam) where
  st : Stmt
  h0 : Hd
  hs : List Hd
  P : Nat → Pos
  eb : toldB Γ h0 hs P = defBody st
  S : FnScope tN [nA] (defScope st)
  lH : (defScope st).names.lookup nH = some .local
  lE : (defScope st).names.lookup nE = some .local
  va : Vis (defScope st) nA
  gc : ∀ h ∈ h0 :: hs, isGl (defScope st) (gname Γ.cls h.c) = true
  gi : isGl (defScope st) "isinstance" = true
  gh : isGl (defScope st) "HeldError" = true
  gv : isGl (defScope st) "ValueError" = true
  gr : isGl (defScope st) "repr" = true
  bo : ∀ (kV doc pm : Value) (an : Option Addr) (cdv ct : Value) (us : List Value), us.length = 1 → bindArgs (PySem.W.fnOf Γ.told Γ.told (defArgs st) (defBody st) (defScope st) .none kV doc pm an cdv ct) ⟨us, []⟩ = pure ([nA].zip us)
  hc : ∀ h ∈ h0 :: hs, h.c < Γ.cls.length
  db : (Γ.told == ("__debug__" : Str)) = false
def TldI.d {Γ : Gam} (i : TldI Γ) : He.DefD := ⟨(Γ.told, none), Γ.told, Γ.told, defArgs i.st, defBody i.st, defScope i.st, [], []⟩
/-- the text of the errors' __init__ -/
structure IniI (hld : Str) where
  st : Stmt
  q : Str
  p1 : Pos
  p2 : Pos
  p3 : Pos
  p4 : Pos
  eb : defBody st = [.Assign [.Attribute (.Name "self" p1) "value" p2] (.Name "value" p3) p4]
  S : FnScope ["self", "value"] ["self", "value"] (defScope st)
  bo : ∀ (T : Addr) (kV doc pm : Value) (an : Option Addr) (cdv ct : Value) (us its : List Value), us.length = 2 → its.length = 1 →
      ∃ k, bindArgs (PySem.W.fnOf "__init__" q (defArgs st) (defBody st) (defScope st) (.ref T) kV doc pm an cdv ct) ⟨us, []⟩ = seqItems? (.ref T) >>= k ∧ k (some its.toArray) = pure ((["self", "value"] : List Str).zip (us ++ its.drop 1))
def IniI.d {hld : Str} (i : IniI hld) : He.DefD := ⟨(hld, some "__init__"), "__init__", i.q, defArgs i.st, defBody i.st, defScope i.st, [.non], []⟩
section
variable {t : Txt} {P : Program} {w : World} {K : PySem.W.Frag} {h base : Heap} {mg : Str → Option Value} {fa : List He.Fa} {fn : List He.DefD}
theorem gname_mem {l : List Str} {c : Nat} (hcc : c < l.length) : gname l c ∈ l := by
  unfold gname
  rw [List.getD_eq_getElem?_getD, List.getElem?_eq_getElem hcc]
  exact List.getElem_mem hcc
theorem gname_inj {l : List Str} (nd : l.Nodup) {c d : Nat} (hc : c < l.length) (hd : d < l.length) (e : gname l c = gname l d) : c = d := by
  unfold gname at e
  rw [List.getD_eq_getElem?_getD, List.getElem?_eq_getElem hc, List.getD_eq_getElem?_getD, List.getElem?_eq_getElem hd] at e
  exact (List.getElem_inj nd).mp e
theorem tld_ok (o : t.Ok) (i : TldI t.Γ) (hh : t.hld = "HeldError") (X : K.In h) (G : h.Ns mainGlobals mg) (c : He.SaysD fa fn K) (hfn : i.d ∈ fn) (hfa : He.Fa.glo t.Γ.told ∈ fa) (ex : t.ex K = true)
    (sys : ∃ o, base.get? sysModules = some o ∧ o.cls ≠ .type "list") : TldOk (t.W P w K mg base) (ga K t.Γ.told) (ga K t.hld) i.h0 i.hs i.P := by
  obtain ⟨g1, ex⟩ := ba ex
  obtain ⟨g2, ex⟩ := ba ex
  obtain ⟨g3, ex⟩ := ba ex
  obtain ⟨g4, ex⟩ := ba ex
  obtain ⟨g5, g6⟩ := ba ex
  obtain ⟨fd, FD⟩ := c.defs hfn
  have kp := FD.kp
  have er : ∀ hd ∈ i.h0 :: i.hs, ErrF K t.hld (gname t.Γ.cls hd.c) := fun hd hm => errB_ok (List.all_eq_true.mp g5 _ (gname_mem (i.hc hd hm)))
  have hB : L2.Binds K fd [nA] [] := FunD.bindsN FD fun kV doc pm an cdv ct us hl => i.bo kV doc pm an cdv ct us hl
  refine ⟨?_, He.glo_ok X G (c.facts hfa), kp, fun hd hm => He.glo_ok X G (er hd hm).glo, fun hd hm => ⟨(er hd hm).xf, (er hd hm).exc, (er hd hm).val, (er hd hm).k1, (er hd hm).k2⟩, fun a ha b hb => ?_, gf_nm X G g1 (by simp), gf_nm X G g1 (by simp), gf_nm X G g1 (by simp), ?_, sys⟩
  · obtain ⟨oc, od, dV, kV, doc, pm, an, cdv, ct, osl, rfl, lk, hcd, hD, hK⟩ := FD.ex
    have lk : K.lookup (ga K t.Γ.told) = some ⟨oc, od, .func (PySem.W.fnOf t.Γ.told t.Γ.told (defArgs i.st) (defBody i.st) (defScope i.st) dV kV doc pm an cdv ct), osl⟩ := lk
    have hB : L2.Binds K (PySem.W.fnOf t.Γ.told t.Γ.told (defArgs i.st) (defBody i.st) (defScope i.st) dV kV doc pm an cdv ct) [nA] [] := hB
    rw [← i.eb] at lk hB
    exact ⟨defArgs i.st, defScope i.st, dV, kV, doc, pm, cdv, ct, oc, an, od, osl, lk, hcd, hB, i.S, i.lH, i.lE, i.va, i.gc, i.gi, i.gh, i.gv, i.gr⟩
  · have e := emB_ok g6 (gname_mem (i.hc a ha)) (gname_mem (i.hc b hb))
    show PySem.W.exmOne K (.ref (ga K (gname t.Γ.cls a.c))) (.ref (ga K (gname t.Γ.cls b.c))) = _
    rw [e]
    congr 1
    rw [decide_eq_decide]
    exact ⟨fun z => gname_inj o.cn (i.hc a ha) (i.hc b hb) z, fun z => by rw [z]⟩
  · show mg "HeldError" = _
    rw [← hh]
    exact He.glo_ok X G g4
/-- a law that tells -/
theorem law_at (o : t.Ok) (i : TldI t.Γ) (ii : IniI t.hld) (hh : t.hld = "HeldError") {n k f : Nat} (X : K.In h) (G : h.Ns mainGlobals mg) (s : He.SaysX t.fa (i.d :: ii.d :: t.fn) [] t.tf t.ex w h K) {a : Addr} (hf : f < t.Γ.fns.length) (hmg : mg (gname t.Γ.fns f) = some (.ref a)) (ht : t.Γ.told ∈ t.Γ.fns)
    (ev : ∀ ns : List Int, ns.length ≤ n → (∀ z ∈ ns, Builtin.Int.intBits z ≤ 1048576) → ∃ ps, run t.fns (tell fun c => (tagL (i.h0 :: i.hs)).lookup c) t.gd k f [.val (.rol (ns.map D.int))] = some (.ret (.val (.bl true)) ps)) : LawAt P w K k n mg a h := by
  have c : He.SaysD t.fa (i.d :: ii.d :: t.fn) K := congrArg (fun z : He.AlT => z.1) s.t
  have hnd : (t.tf.map fun p => (cT K p).2).Nodup := by
    obtain ⟨_, ex⟩ := ba s.more
    obtain ⟨_, ex⟩ := ba ex
    exact of_decide_eq_true (ba ex).1
  have inF : ∀ j, some j ∈ t.dis → j.d ∈ i.d :: ii.d :: t.fn := fun j hj => by
    refine List.mem_cons_of_mem _ (List.mem_cons_of_mem _ ?_)
    unfold Txt.fn
    exact List.mem_filterMap.mpr ⟨some j, hj, rfl⟩
  have inA : ∀ x ∈ t.Γ.fns, He.Fa.glo x ∈ t.fa := fun x hx => List.mem_map.mpr ⟨x, hx, rfl⟩
  let nm : Addr × Addr → Str := fun p => match t.tf.find? (fun q => decide (cT K q = p)) with
    | some q => lamN q.1
    | none => ""
  have eT : ((t.tf.map (cT K)).map fun p => (p.2, nm p)) = t.tf.map fun p => ((cT K p).2, lamN p.1) := by
    rw [List.map_map]
    refine List.map_congr_left fun q hq => ?_
    show ((cT K q).2, nm (cT K q)) = _
    have : nm (cT K q) = lamN q.1 := by
      show (match t.tf.find? (fun q' => decide (cT K q' = cT K q)) with | some q => lamN q.1 | none => "") = _
      cases z : t.tf.find? (fun q' => decide (cT K q' = cT K q)) with
      | none =>
        have := List.find?_eq_none.mp z q hq
        simp at this
      | some q' =>
        have h1 := List.mem_of_find?_eq_some z
        have h2 : cT K q' = cT K q := by simpa using List.find?_some z
        have : q' = q := nodup_map_inj hnd h1 hq (congrArg (·.2) h2)
        rw [this]
    rw [this]
  refine ⟨t.tf.map (cT K), nm, fun p hp => ?_, fun p hp => ?_, fun p hp => ?_, fun base Xb Gb TB sys => ?_⟩
  · obtain ⟨q, hq, rfl⟩ := List.mem_map.mp hp
    exact s.empty q hq
  · obtain ⟨q, hq, rfl⟩ := List.mem_map.mp hp
    exact s.out q hq
  · obtain ⟨q, hq, rfl⟩ := List.mem_map.mp hp
    exact PySem.W.codeHd_of_K X (s.hd q hq)
  · have T := tld_ok (P := P) (w := w) (base := base) o i hh X G c List.mem_cons_self (inA _ ht) s.more sys
    obtain ⟨fdI, FI⟩ := c.defs (d := ii.d) (List.mem_cons_of_mem _ List.mem_cons_self)
    have ini : IniOk (t.W P w K mg base) (fAd K (t.hld, some "__init__")) := ini_of (Ω := t.W P w K mg base) (st := ii.st) FI ii.eb ii.S ii.bo
    have kp : ∀ f, f < t.Γ.fns.length → PySem.W.keepIn K (.ref (ga K (gname t.Γ.fns f))) = true := fun f hf => by
      have hd : f < t.dis.length := by
        have := congrArg List.length o.nm
        rw [List.length_map] at this
        omega
      cases e : t.dis[f] with
      | some j =>
        have e1 : t.dis[f]? = some (some j) := by rw [List.getElem?_eq_getElem hd, e]
        rw [dis_nm o e1]
        obtain ⟨fd, F⟩ := c.defs (inF j (List.mem_of_getElem? e1))
        exact F.kp
      | none =>
        have : gname t.Γ.fns f = t.Γ.told := by
          unfold gname
          rw [← o.nm, List.getD_eq_getElem?_getD, List.getElem?_map, List.getElem?_eq_getElem hd, e]
          rfl
        rw [this]
        exact T.kp
    have L := law_mk (P := P) (w := w) (base := base) o X G Xb Gb c inF inA s.more kp (fun p hp => TB _ (List.mem_map.mpr ⟨p, hp, rfl⟩)) sys ini (tf := tell fun c => (tagL (i.h0 :: i.hs)).lookup c) (tsp := tspT (t.W P w K mg base) i.h0 i.hs)
      (fun N lv => tell_ok T N lv i.db) (fun n tt W δ o o' h1 h2 => tell_td (Ω := t.W P w K mg base) (tagL (i.h0 :: i.hs)) n tt W δ o o' h1 h2)
    refine ⟨t.Γ, (t.W P w K mg base).gv, (t.W P w K mg base).fa, (t.W P w K mg base).ca, t.fns, (tell fun c => (tagL (i.h0 :: i.hs)).lookup c), t.gd, tspT (t.W P w K mg base) i.h0 i.hs, f, ?_, ?_, hf, ev⟩
    · rw [eT]
      exact L
    · have : mg (gname t.Γ.fns f) = some (.ref (ga K (gname t.Γ.fns f))) := He.glo_ok X G (c.facts (inA _ (gname_mem hf)))
      rw [hmg] at this
      cases this
      rfl
end
theorem ks_of {t : Txt} (h : (t.dis.zipIdx.all fun p => match p.1 with | some i => decide ((t.Γ.kws.filter fun q => q.1 == p.2).map (·.2) = i.ks) | none => true) = true) (f : Nat) (i : DefI t.Γ) (e : t.dis[f]? = some (some i)) : (t.Γ.kws.filter fun p => p.1 == f).map (·.2) = i.ks := by
  have := List.all_eq_true.mp h (some i, f) (List.mem_zipIdx_iff_getElem?.mpr e)
  exact of_decide_eq_true this
end Mn

-- K11a
set_option Elab.async false
set_option linter.all false
set_option maxRecDepth 100000
set_option autoImplicit false
namespace K11
open PySem Mn
def gam : Gam := ⟨[(Str.ofString "is_integer"), (Str.ofString "is_end"), (Str.ofString "is_list"), (Str.ofString "is_value"), (Str.ofString "want_value"), (Str.ofString "want_integer"), (Str.ofString "is_not_less"), (Str.ofString "least_of"), (Str.ofString "greatest_of"), (Str.ofString "end_at"), (Str.ofString "integers_in"), (Str.ofString "is_at_least"), (Str.ofString "lesser_of"), (Str.ofString "greater_of"), (Str.ofString "at_level"), (Str.ofString "levels_of"), (Str.ofString "_law_pot"), (Str.ofString "_law_draw"), (Str.ofString "_law_pick"), (Str.ofString "_law_number"), (Str.ofString "_law_shown"), (Str.ofString "_law_thing"), (Str.ofString "_law_things"), (Str.ofString "_law_odd"), (Str.ofString "_law_extreme"), (Str.ofString "_law_told"), (Str.ofString "_law_pairs_right"), (Str.ofString "_law_levels_right"), (Str.ofString "_law_extremes_right"), (Str.ofString "_law_eight_right"), (Str.ofString "_law_refused_right"), (Str.ofString "_law_right"), (Str.ofString "law")], [(Str.ofString "BOTTOM"), (Str.ofString "TOP"), (Str.ofString "ENDS"), (Str.ofString "NO_BOUND")], [(Str.ofString "InvalidValue"), (Str.ofString "InvalidValues"), (Str.ofString "InvalidInteger")], [(14, [(Str.ofString "value"), (Str.ofString "level")])], (Str.ofString "_law_told")⟩
/-! is_integer : top 10 -/
def n10 : List Str := [(Str.ofString "value")]
def b10 : Ss := (.cons (.ret (.bop .And (.cons (.isi (.var 0 ⟨18, 22, 18, 27⟩) "int" ⟨18, 29, 18, 32⟩ ⟨18, 11, 18, 21⟩ ⟨18, 11, 18, 33⟩) (.cons (.nt (.isi (.var 0 ⟨18, 54, 18, 59⟩) "bool" ⟨18, 61, 18, 65⟩ ⟨18, 43, 18, 53⟩ ⟨18, 43, 18, 66⟩) ⟨18, 39, 18, 66⟩) .nil)) ⟨18, 11, 18, 67⟩) ⟨18, 4, 18, 67⟩) .nil)
/-! is_end : top 11 -/
def n11 : List Str := [(Str.ofString "value")]
def b11 : Ss := (.cons (.ret (.bop .And (.cons (.isi (.var 0 ⟨20, 22, 20, 27⟩) "str" ⟨20, 29, 20, 32⟩ ⟨20, 11, 20, 21⟩ ⟨20, 11, 20, 33⟩) (.cons (.cmp .In (.var 0 ⟨20, 38, 20, 43⟩) (.glo 2 ⟨20, 47, 20, 51⟩) ⟨20, 38, 20, 51⟩) .nil)) ⟨20, 11, 20, 51⟩) ⟨20, 4, 20, 51⟩) .nil)
/-! is_list : top 12 -/
def n12 : List Str := [(Str.ofString "value")]
def b12 : Ss := (.cons (.ret (.isiT (.var 0 ⟨22, 22, 22, 27⟩) [("list", ⟨22, 30, 22, 34⟩), ("tuple", ⟨22, 36, 22, 41⟩)] 0 ⟨22, 29, 22, 42⟩ ⟨22, 11, 22, 21⟩ ⟨22, 11, 22, 43⟩) ⟨22, 4, 22, 43⟩) .nil)
/-! is_value : top 13 -/
def n13 : List Str := [(Str.ofString "value")]
def b13 : Ss := (.cons (.ret (.bop .Or (.cons (.call 0 ⟨24, 11, 24, 21⟩ (.cons (.var 0 ⟨24, 22, 24, 27⟩) .nil) ⟨24, 11, 24, 28⟩) (.cons (.call 1 ⟨24, 32, 24, 38⟩ (.cons (.var 0 ⟨24, 39, 24, 44⟩) .nil) ⟨24, 32, 24, 45⟩) .nil)) ⟨24, 11, 24, 45⟩) ⟨24, 4, 24, 45⟩) .nil)
/-! want_value : top 14 -/
def n14 : List Str := [(Str.ofString "value")]
def b14 : Ss := (.cons (.iff (.nt (.call 3 ⟨26, 11, 26, 19⟩ (.cons (.var 0 ⟨26, 20, 26, 25⟩) .nil) ⟨26, 11, 26, 26⟩) ⟨26, 7, 26, 26⟩) (.cons (.raise 0 ⟨27, 14, 27, 26⟩ (.var 0 ⟨27, 27, 27, 32⟩) ⟨27, 14, 27, 33⟩ ⟨27, 8, 27, 33⟩) .nil) .nil ⟨26, 4, 27, 33⟩) .nil)
/-! want_integer : top 15 -/
def n15 : List Str := [(Str.ofString "value")]
def b15 : Ss := (.cons (.iff (.nt (.call 0 ⟨29, 11, 29, 21⟩ (.cons (.var 0 ⟨29, 22, 29, 27⟩) .nil) ⟨29, 11, 29, 28⟩) ⟨29, 7, 29, 28⟩) (.cons (.raise 2 ⟨30, 14, 30, 28⟩ (.var 0 ⟨30, 29, 30, 34⟩) ⟨30, 14, 30, 35⟩ ⟨30, 8, 30, 35⟩) .nil) .nil ⟨29, 4, 30, 35⟩) .nil)
/-! is_not_less : top 16 -/
def n16 : List Str := [(Str.ofString "one"), (Str.ofString "other")]
def b16 : Ss := (.cons (.iff (.bop .Or (.cons (.cmp .Eq (.var 0 ⟨32, 7, 32, 10⟩) (.glo 1 ⟨32, 14, 32, 17⟩) ⟨32, 7, 32, 17⟩) (.cons (.cmp .Eq (.var 1 ⟨32, 21, 32, 26⟩) (.glo 0 ⟨32, 30, 32, 36⟩) ⟨32, 21, 32, 36⟩) .nil)) ⟨32, 7, 32, 36⟩) (.cons (.ret (.con (.bool true) 0 ⟨33, 15, 33, 19⟩) ⟨33, 8, 33, 19⟩) .nil) .nil ⟨32, 4, 33, 19⟩) (.cons (.iff (.bop .Or (.cons (.cmp .Eq (.var 0 ⟨34, 7, 34, 10⟩) (.glo 0 ⟨34, 14, 34, 20⟩) ⟨34, 7, 34, 20⟩) (.cons (.cmp .Eq (.var 1 ⟨34, 24, 34, 29⟩) (.glo 1 ⟨34, 33, 34, 36⟩) ⟨34, 24, 34, 36⟩) .nil)) ⟨34, 7, 34, 36⟩) (.cons (.ret (.con (.bool false) 0 ⟨35, 15, 35, 20⟩) ⟨35, 8, 35, 20⟩) .nil) .nil ⟨34, 4, 35, 20⟩) (.cons (.ret (.cmp .GtE (.var 0 ⟨36, 11, 36, 14⟩) (.var 1 ⟨36, 18, 36, 23⟩) ⟨36, 11, 36, 23⟩) ⟨36, 4, 36, 23⟩) .nil)))
/-! least_of : top 17 -/
def n17 : List Str := [(Str.ofString "values"), (Str.ofString "found"), (Str.ofString "value")]
def b17 : Ss := (.cons (.asg 1 ⟨38, 4, 38, 9⟩ (.glo 1 ⟨38, 12, 38, 15⟩) ⟨38, 4, 38, 15⟩) (.cons (.fr 2 ⟨39, 8, 39, 13⟩ (.seq (.var 0 ⟨39, 17, 39, 23⟩)) (.cons (.iff (.call 6 ⟨40, 11, 40, 22⟩ (.cons (.var 1 ⟨40, 23, 40, 28⟩) (.cons (.var 2 ⟨40, 30, 40, 35⟩) .nil)) ⟨40, 11, 40, 36⟩) (.cons (.asg 1 ⟨41, 12, 41, 17⟩ (.var 2 ⟨41, 20, 41, 25⟩) ⟨41, 12, 41, 25⟩) .nil) .nil ⟨40, 8, 41, 25⟩) .nil) ⟨39, 4, 41, 25⟩) (.cons (.ret (.var 1 ⟨42, 11, 42, 16⟩) ⟨42, 4, 42, 16⟩) .nil)))
/-! greatest_of : top 18 -/
def n18 : List Str := [(Str.ofString "values"), (Str.ofString "found"), (Str.ofString "value")]
def b18 : Ss := (.cons (.asg 1 ⟨44, 4, 44, 9⟩ (.glo 0 ⟨44, 12, 44, 18⟩) ⟨44, 4, 44, 18⟩) (.cons (.fr 2 ⟨45, 8, 45, 13⟩ (.seq (.var 0 ⟨45, 17, 45, 23⟩)) (.cons (.iff (.call 6 ⟨46, 11, 46, 22⟩ (.cons (.var 2 ⟨46, 23, 46, 28⟩) (.cons (.var 1 ⟨46, 30, 46, 35⟩) .nil)) ⟨46, 11, 46, 36⟩) (.cons (.asg 1 ⟨47, 12, 47, 17⟩ (.var 2 ⟨47, 20, 47, 25⟩) ⟨47, 12, 47, 25⟩) .nil) .nil ⟨46, 8, 47, 25⟩) .nil) ⟨45, 4, 47, 25⟩) (.cons (.ret (.var 1 ⟨48, 11, 48, 16⟩) ⟨48, 4, 48, 16⟩) .nil)))
/-! end_at : top 19 -/
def n19 : List Str := [(Str.ofString "value"), (Str.ofString "level")]
def b19 : Ss := (.cons (.ret (.ife (.call 6 ⟨50, 18, 50, 29⟩ (.cons (.var 0 ⟨50, 30, 50, 35⟩) (.cons (.var 1 ⟨50, 37, 50, 42⟩) .nil)) ⟨50, 18, 50, 43⟩) (.glo 1 ⟨50, 11, 50, 14⟩) (.glo 0 ⟨50, 49, 50, 55⟩) ⟨50, 11, 50, 55⟩) ⟨50, 4, 50, 55⟩) .nil)
/-! integers_in : top 20 -/
def n20 : List Str := [(Str.ofString "values"), (Str.ofString "value")]
def b20 : Ss := (.cons (.ret (.rev (.srt ⟨52, 11, 52, 17⟩ (.var 1 ⟨52, 19, 52, 24⟩) 1 ⟨52, 29, 52, 34⟩ (.seq (.var 0 ⟨52, 38, 52, 44⟩)) (.cons (.call 0 ⟨52, 48, 52, 58⟩ (.cons (.var 1 ⟨52, 59, 52, 64⟩) .nil) ⟨52, 48, 52, 65⟩) .nil) { kind := .function, names := [((Str.ofString ".0"), .local), ((Str.ofString "value"), .local), ((Str.ofString "is_integer"), .globalImplicit)], isGenerator := false, isCoroutine := false, more := [] } ⟨52, 18, 52, 66⟩ ⟨52, 11, 52, 67⟩) 0 ⟨52, 71, 52, 72⟩ ⟨52, 70, 52, 72⟩ ⟨52, 68, 52, 72⟩ ⟨52, 11, 52, 73⟩) ⟨52, 4, 52, 73⟩) .nil)
/-! is_at_least : top 21 -/
def n21 : List Str := [(Str.ofString "one"), (Str.ofString "other")]
def b21 : Ss := (.cons (.exp (.call 4 ⟨54, 4, 54, 14⟩ (.cons (.var 0 ⟨54, 15, 54, 18⟩) .nil) ⟨54, 4, 54, 19⟩) ⟨54, 4, 54, 19⟩) (.cons (.exp (.call 4 ⟨55, 4, 55, 14⟩ (.cons (.var 1 ⟨55, 15, 55, 20⟩) .nil) ⟨55, 4, 55, 21⟩) ⟨55, 4, 55, 21⟩) (.cons (.ret (.call 6 ⟨56, 11, 56, 22⟩ (.cons (.var 0 ⟨56, 23, 56, 26⟩) (.cons (.var 1 ⟨56, 28, 56, 33⟩) .nil)) ⟨56, 11, 56, 34⟩) ⟨56, 4, 56, 34⟩) .nil)))
/-! lesser_of : top 22 -/
def n22 : List Str := [(Str.ofString "values"), (Str.ofString "value")]
def b22 : Ss := (.cons (.fr 1 ⟨58, 8, 58, 13⟩ (.seq (.var 0 ⟨58, 17, 58, 23⟩)) (.cons (.exp (.call 4 ⟨59, 8, 59, 18⟩ (.cons (.var 1 ⟨59, 19, 59, 24⟩) .nil) ⟨59, 8, 59, 25⟩) ⟨59, 8, 59, 25⟩) .nil) ⟨58, 4, 59, 25⟩) (.cons (.ret (.call 7 ⟨60, 11, 60, 19⟩ (.cons (.var 0 ⟨60, 20, 60, 26⟩) .nil) ⟨60, 11, 60, 27⟩) ⟨60, 4, 60, 27⟩) .nil))
/-! greater_of : top 23 -/
def n23 : List Str := [(Str.ofString "values"), (Str.ofString "value")]
def b23 : Ss := (.cons (.fr 1 ⟨62, 8, 62, 13⟩ (.seq (.var 0 ⟨62, 17, 62, 23⟩)) (.cons (.exp (.call 4 ⟨63, 8, 63, 18⟩ (.cons (.var 1 ⟨63, 19, 63, 24⟩) .nil) ⟨63, 8, 63, 25⟩) ⟨63, 8, 63, 25⟩) .nil) ⟨62, 4, 63, 25⟩) (.cons (.ret (.call 8 ⟨64, 11, 64, 22⟩ (.cons (.var 0 ⟨64, 23, 64, 29⟩) .nil) ⟨64, 11, 64, 30⟩) ⟨64, 4, 64, 30⟩) .nil))
/-! at_level : top 24 -/
def n24 : List Str := [(Str.ofString "value"), (Str.ofString "level")]
def b24 : Ss := (.cons (.exp (.call 4 ⟨66, 4, 66, 14⟩ (.cons (.var 0 ⟨66, 15, 66, 20⟩) .nil) ⟨66, 4, 66, 21⟩) ⟨66, 4, 66, 21⟩) (.cons (.exp (.call 5 ⟨67, 4, 67, 16⟩ (.cons (.var 1 ⟨67, 17, 67, 22⟩) .nil) ⟨67, 4, 67, 23⟩) ⟨67, 4, 67, 23⟩) (.cons (.ret (.call 9 ⟨68, 11, 68, 17⟩ (.cons (.var 0 ⟨68, 18, 68, 23⟩) (.cons (.var 1 ⟨68, 25, 68, 30⟩) .nil)) ⟨68, 11, 68, 31⟩) ⟨68, 4, 68, 31⟩) .nil)))
/-! levels_of : top 25 -/
def n25 : List Str := [(Str.ofString "values"), (Str.ofString "value")]
def b25 : Ss := (.cons (.iff (.bop .Or (.cons (.nt (.call 2 ⟨70, 11, 70, 18⟩ (.cons (.var 0 ⟨70, 19, 70, 25⟩) .nil) ⟨70, 11, 70, 26⟩) ⟨70, 7, 70, 26⟩) (.cons (.nt (.bi .all ⟨70, 34, 70, 37⟩ (.cons (.lc (.call 3 ⟨70, 39, 70, 47⟩ (.cons (.var 1 ⟨70, 48, 70, 53⟩) .nil) ⟨70, 39, 70, 54⟩) 1 ⟨70, 59, 70, 64⟩ (.seq (.var 0 ⟨70, 68, 70, 74⟩)) .nil { kind := .function, names := [((Str.ofString ".0"), .local), ((Str.ofString "value"), .local), ((Str.ofString "is_value"), .globalImplicit)], isGenerator := false, isCoroutine := false, more := [] } ⟨70, 38, 70, 75⟩) .nil) ⟨70, 34, 70, 76⟩) ⟨70, 30, 70, 76⟩) .nil)) ⟨70, 7, 70, 76⟩) (.cons (.raise 1 ⟨71, 14, 71, 27⟩ (.var 0 ⟨71, 28, 71, 34⟩) ⟨71, 14, 71, 35⟩ ⟨71, 8, 71, 35⟩) .nil) .nil ⟨70, 4, 71, 35⟩) (.cons (.ret (.call 10 ⟨72, 11, 72, 22⟩ (.cons (.var 0 ⟨72, 23, 72, 29⟩) .nil) ⟨72, 11, 72, 30⟩) ⟨72, 4, 72, 30⟩) .nil))
/-! _law_pot : top 27 -/
def n27 : List Str := [(Str.ofString "_law_script"), (Str.ofString "_law_k"), (Str.ofString "_law_cell")]
def b27 : Ss := (.cons (.asg 2 ⟨75, 4, 75, 13⟩ (.bin .Add (.bin .Mult (.con (.int (23)) 0 ⟨75, 16, 75, 18⟩) (.var 1 ⟨75, 21, 75, 27⟩) ⟨75, 16, 75, 27⟩) (.con (.int (9)) 0 ⟨75, 30, 75, 31⟩) ⟨75, 16, 75, 31⟩) ⟨75, 4, 75, 31⟩) (.cons (.iff (.cmp .Lt (.var 1 ⟨76, 7, 76, 13⟩) (.bi .len ⟨76, 16, 76, 19⟩ (.cons (.var 0 ⟨76, 20, 76, 31⟩) .nil) ⟨76, 16, 76, 32⟩) ⟨76, 7, 76, 32⟩) (.cons (.asg 2 ⟨77, 8, 77, 17⟩ (.idx (.var 0 ⟨77, 20, 77, 31⟩) (.var 1 ⟨77, 32, 77, 38⟩) ⟨77, 20, 77, 39⟩) ⟨77, 8, 77, 39⟩) .nil) .nil ⟨76, 4, 77, 39⟩) (.cons (.ret (.lst (.cons (.bi .max ⟨78, 12, 78, 15⟩ (.cons (.con (.int (0)) 0 ⟨78, 16, 78, 17⟩) (.cons (.bin .Sub (.bi .abs ⟨78, 19, 78, 22⟩ (.cons (.var 2 ⟨78, 23, 78, 32⟩) .nil) ⟨78, 19, 78, 33⟩) (.bin .Pow (.con (.int (10)) 0 ⟨78, 36, 78, 38⟩) (.con (.int (18)) 0 ⟨78, 42, 78, 44⟩) ⟨78, 36, 78, 44⟩) ⟨78, 19, 78, 44⟩) .nil)) ⟨78, 12, 78, 45⟩) (.cons (.bin .Add (.bin .Mod (.bin .Mult (.bi .int ⟨78, 47, 78, 50⟩ (.cons (.bin .Add (.bin .Mod (.bi .int ⟨78, 51, 78, 54⟩ (.cons (.bi .abs ⟨78, 55, 78, 58⟩ (.cons (.var 2 ⟨78, 59, 78, 68⟩) .nil) ⟨78, 55, 78, 69⟩) .nil) ⟨78, 51, 78, 70⟩) (.con (.int (2147483549)) 0 ⟨78, 73, 78, 83⟩) ⟨78, 51, 78, 83⟩) (.con (.int (3)) 0 ⟨78, 86, 78, 87⟩) ⟨78, 51, 78, 87⟩) .nil) ⟨78, 47, 78, 88⟩) (.bin .Pow (.bin .Add (.bin .Mult (.con (.int (2)) 0 ⟨78, 92, 78, 93⟩) (.var 1 ⟨78, 96, 78, 102⟩) ⟨78, 92, 78, 102⟩) (.con (.int (5)) 0 ⟨78, 105, 78, 106⟩) ⟨78, 92, 78, 106⟩) (.con (.int (3)) 0 ⟨78, 111, 78, 112⟩) ⟨78, 91, 78, 112⟩) ⟨78, 47, 78, 112⟩) (.con (.int (2147483477)) 0 ⟨78, 115, 78, 125⟩) ⟨78, 47, 78, 125⟩) (.con (.int (1)) 0 ⟨78, 128, 78, 129⟩) ⟨78, 47, 78, 129⟩) .nil)) ⟨78, 11, 78, 130⟩) ⟨78, 4, 78, 130⟩) .nil)))
/-! _law_draw : top 28 -/
def n28 : List Str := [(Str.ofString "_law_pot_here"), (Str.ofString "_law_many"), (Str.ofString "_law_digit")]
def b28 : Ss := (.cons (.iff (.cmp .Gt (.idx (.var 0 ⟨80, 7, 80, 20⟩) (.con (.int (0)) 0 ⟨80, 21, 80, 22⟩) ⟨80, 7, 80, 23⟩) (.con (.int (0)) 0 ⟨80, 26, 80, 27⟩) ⟨80, 7, 80, 27⟩) (.cons (.unp (.sub (.var 0 ⟨81, 8, 81, 21⟩) (.con (.int (0)) 0 ⟨81, 22, 81, 23⟩) ⟨81, 8, 81, 24⟩) (.nm 2 ⟨81, 26, 81, 36⟩) 0 ⟨81, 8, 81, 36⟩ (.bi .divmod ⟨81, 39, 81, 45⟩ (.cons (.idx (.var 0 ⟨81, 46, 81, 59⟩) (.con (.int (0)) 0 ⟨81, 60, 81, 61⟩) ⟨81, 46, 81, 62⟩) (.cons (.var 1 ⟨81, 64, 81, 73⟩) .nil)) ⟨81, 39, 81, 74⟩) ⟨81, 8, 81, 74⟩) (.cons (.ret (.var 2 ⟨82, 15, 82, 25⟩) ⟨82, 8, 82, 25⟩) .nil)) .nil ⟨80, 4, 82, 25⟩) (.cons (.sub (.var 0 ⟨83, 4, 83, 17⟩) (.con (.int (1)) 0 ⟨83, 18, 83, 19⟩) ⟨83, 4, 83, 20⟩ (.bin .Mod (.bi .int ⟨83, 23, 83, 26⟩ (.cons (.bin .Add (.bin .Mult (.idx (.var 0 ⟨83, 27, 83, 40⟩) (.con (.int (1)) 0 ⟨83, 41, 83, 42⟩) ⟨83, 27, 83, 43⟩) (.con (.int (48271)) 0 ⟨83, 46, 83, 51⟩) ⟨83, 27, 83, 51⟩) (.con (.int (11213)) 0 ⟨83, 54, 83, 59⟩) ⟨83, 27, 83, 59⟩) .nil) ⟨83, 23, 83, 60⟩) (.con (.int (2147483587)) 0 ⟨83, 63, 83, 73⟩) ⟨83, 23, 83, 73⟩) ⟨83, 4, 83, 73⟩) (.cons (.ret (.bin .Mod (.bin .FloorDiv (.bin .Mod (.bi .int ⟨84, 11, 84, 14⟩ (.cons (.bin .Mult (.idx (.var 0 ⟨84, 15, 84, 28⟩) (.con (.int (1)) 0 ⟨84, 29, 84, 30⟩) ⟨84, 15, 84, 31⟩) (.idx (.var 0 ⟨84, 34, 84, 47⟩) (.con (.int (1)) 0 ⟨84, 48, 84, 49⟩) ⟨84, 34, 84, 50⟩) ⟨84, 15, 84, 50⟩) .nil) ⟨84, 11, 84, 51⟩) (.con (.int (2147483549)) 0 ⟨84, 54, 84, 64⟩) ⟨84, 11, 84, 64⟩) (.con (.int (13)) 0 ⟨84, 68, 84, 70⟩) ⟨84, 11, 84, 70⟩) (.var 1 ⟨84, 73, 84, 82⟩) ⟨84, 11, 84, 82⟩) ⟨84, 4, 84, 82⟩) .nil)))
/-! _law_pick : top 29 -/
def n29 : List Str := [(Str.ofString "_law_pot_here"), (Str.ofString "_law_some")]
def b29 : Ss := (.cons (.ret (.idx (.var 1 ⟨86, 11, 86, 20⟩) (.call 17 ⟨86, 21, 86, 30⟩ (.cons (.var 0 ⟨86, 31, 86, 44⟩) (.cons (.bi .len ⟨86, 46, 86, 49⟩ (.cons (.var 1 ⟨86, 50, 86, 59⟩) .nil) ⟨86, 46, 86, 60⟩) .nil)) ⟨86, 21, 86, 61⟩) ⟨86, 11, 86, 62⟩) ⟨86, 4, 86, 62⟩) .nil)
/-! _law_number : top 30 -/
def n30 : List Str := [(Str.ofString "_law_thing_here")]
def b30 : Ss := (.cons (.ret (.me .get (.dis (.cons (.con (.str (Str.ofString "bottom")) 0 ⟨88, 12, 88, 20⟩) (.neg (.bin .Pow (.con (.int (10)) 0 ⟨88, 23, 88, 25⟩) (.con (.int (64)) 0 ⟨88, 29, 88, 31⟩) ⟨88, 23, 88, 31⟩) ⟨88, 22, 88, 31⟩) (.cons (.con (.str (Str.ofString "top")) 0 ⟨88, 33, 88, 38⟩) (.bin .Pow (.con (.int (10)) 0 ⟨88, 40, 88, 42⟩) (.con (.int (64)) 0 ⟨88, 46, 88, 48⟩) ⟨88, 40, 88, 48⟩) .nil)) ⟨88, 11, 88, 49⟩) ⟨88, 11, 88, 53⟩ (.cons (.var 0 ⟨88, 54, 88, 69⟩) (.cons (.var 0 ⟨88, 71, 88, 86⟩) .nil)) ⟨88, 11, 88, 87⟩) ⟨88, 4, 88, 87⟩) .nil)
/-! _law_shown : top 31 -/
def n31 : List Str := [(Str.ofString "_law_number_here")]
def b31 : Ss := (.cons (.ret (.me .get (.dis (.cons (.neg (.bin .Pow (.con (.int (10)) 0 ⟨90, 13, 90, 15⟩) (.con (.int (64)) 0 ⟨90, 19, 90, 21⟩) ⟨90, 13, 90, 21⟩) ⟨90, 12, 90, 21⟩) (.con (.str (Str.ofString "bottom")) 0 ⟨90, 23, 90, 31⟩) (.cons (.bin .Pow (.con (.int (10)) 0 ⟨90, 33, 90, 35⟩) (.con (.int (64)) 0 ⟨90, 39, 90, 41⟩) ⟨90, 33, 90, 41⟩) (.con (.str (Str.ofString "top")) 0 ⟨90, 43, 90, 48⟩) .nil)) ⟨90, 11, 90, 49⟩) ⟨90, 11, 90, 53⟩ (.cons (.var 0 ⟨90, 54, 90, 70⟩) (.cons (.var 0 ⟨90, 72, 90, 88⟩) .nil)) ⟨90, 11, 90, 89⟩) ⟨90, 4, 90, 89⟩) .nil)
/-! _law_thing : top 32 -/
def n32 : List Str := [(Str.ofString "_law_pot_here"), (Str.ofString "_law_before"), (Str.ofString "_law_way"), (Str.ofString "_law_bound"), (Str.ofString "_law_near")]
def b32 : Ss := (.cons (.par 2 3 ⟨92, 4, 92, 12⟩ ⟨92, 14, 92, 24⟩ 0 ⟨92, 4, 92, 24⟩ (.call 17 ⟨92, 28, 92, 37⟩ (.cons (.var 0 ⟨92, 38, 92, 51⟩) (.cons (.con (.int (10)) 0 ⟨92, 53, 92, 55⟩) .nil)) ⟨92, 28, 92, 56⟩) (.bin .Sub (.bin .Pow (.con (.int (10)) 0 ⟨92, 58, 92, 60⟩) (.con (.int (60)) 0 ⟨92, 64, 92, 66⟩) ⟨92, 58, 92, 66⟩) (.con (.int (1)) 0 ⟨92, 69, 92, 70⟩) ⟨92, 58, 92, 70⟩) 0 ⟨92, 27, 92, 71⟩ ⟨92, 4, 92, 71⟩) (.cons (.iff (.cmp .Lt (.var 2 ⟨93, 7, 93, 15⟩) (.con (.int (2)) 0 ⟨93, 18, 93, 19⟩) ⟨93, 7, 93, 19⟩) (.cons (.ret (.call 18 ⟨94, 15, 94, 24⟩ (.cons (.var 0 ⟨94, 25, 94, 38⟩) (.cons (.lst (.cons (.con (.str (Str.ofString "bottom")) 0 ⟨94, 41, 94, 49⟩) (.cons (.con (.str (Str.ofString "top")) 0 ⟨94, 51, 94, 56⟩) .nil)) ⟨94, 40, 94, 57⟩) .nil)) ⟨94, 15, 94, 58⟩) ⟨94, 8, 94, 58⟩) .nil) .nil ⟨93, 4, 94, 58⟩) (.cons (.iff (.bop .And (.cons (.cmp .Lt (.var 2 ⟨95, 7, 95, 15⟩) (.con (.int (5)) 0 ⟨95, 18, 95, 19⟩) ⟨95, 7, 95, 19⟩) (.cons (.cmp .NotEq (.var 1 ⟨95, 24, 95, 35⟩) (.lst .nil ⟨95, 39, 95, 41⟩) ⟨95, 24, 95, 41⟩) .nil)) ⟨95, 7, 95, 41⟩) (.cons (.asg 4 ⟨96, 8, 96, 17⟩ (.bin .Add (.call 18 ⟨96, 20, 96, 29⟩ (.cons (.var 0 ⟨96, 30, 96, 43⟩) (.cons (.var 1 ⟨96, 45, 96, 56⟩) .nil)) ⟨96, 20, 96, 57⟩) (.call 18 ⟨96, 60, 96, 69⟩ (.cons (.var 0 ⟨96, 70, 96, 83⟩) (.cons (.lst (.cons (.con (.int (0)) 0 ⟨96, 86, 96, 87⟩) (.cons (.con (.int (0)) 0 ⟨96, 89, 96, 90⟩) (.cons (.con (.int (1)) 0 ⟨96, 92, 96, 93⟩) (.cons (.neg (.con (.int (1)) 0 ⟨96, 96, 96, 97⟩) ⟨96, 95, 96, 97⟩) .nil)))) ⟨96, 85, 96, 98⟩) .nil)) ⟨96, 60, 96, 99⟩) ⟨96, 20, 96, 99⟩) ⟨96, 8, 96, 99⟩) (.cons (.ret (.bi .max ⟨97, 15, 97, 18⟩ (.cons (.bin .Sub (.con (.int (0)) 0 ⟨97, 19, 97, 20⟩) (.var 3 ⟨97, 23, 97, 33⟩) ⟨97, 19, 97, 33⟩) (.cons (.bi .min ⟨97, 35, 97, 38⟩ (.cons (.var 3 ⟨97, 39, 97, 49⟩) (.cons (.var 4 ⟨97, 51, 97, 60⟩) .nil)) ⟨97, 35, 97, 61⟩) .nil)) ⟨97, 15, 97, 62⟩) ⟨97, 8, 97, 62⟩) .nil)) .nil ⟨95, 4, 97, 62⟩) (.cons (.iff (.cmp .Eq (.var 2 ⟨98, 7, 98, 15⟩) (.con (.int (5)) 0 ⟨98, 19, 98, 20⟩) ⟨98, 7, 98, 20⟩) (.cons (.ret (.call 18 ⟨99, 15, 99, 24⟩ (.cons (.var 0 ⟨99, 25, 99, 38⟩) (.cons (.lst (.cons (.var 3 ⟨99, 41, 99, 51⟩) (.cons (.bin .Sub (.con (.int (0)) 0 ⟨99, 53, 99, 54⟩) (.var 3 ⟨99, 57, 99, 67⟩) ⟨99, 53, 99, 67⟩) (.cons (.con (.int (0)) 0 ⟨99, 69, 99, 70⟩) (.cons (.con (.int (1)) 0 ⟨99, 72, 99, 73⟩) (.cons (.neg (.con (.int (1)) 0 ⟨99, 76, 99, 77⟩) ⟨99, 75, 99, 77⟩) .nil))))) ⟨99, 40, 99, 78⟩) .nil)) ⟨99, 15, 99, 79⟩) ⟨99, 8, 99, 79⟩) .nil) .nil ⟨98, 4, 99, 79⟩) (.cons (.iff (.cmp .Eq (.var 2 ⟨100, 7, 100, 15⟩) (.con (.int (6)) 0 ⟨100, 19, 100, 20⟩) ⟨100, 7, 100, 20⟩) (.cons (.ret (.bin .Add (.bin .Mult (.bin .Sub (.call 17 ⟨101, 16, 101, 25⟩ (.cons (.var 0 ⟨101, 26, 101, 39⟩) (.cons (.con (.int (19)) 0 ⟨101, 41, 101, 43⟩) .nil)) ⟨101, 16, 101, 44⟩) (.con (.int (9)) 0 ⟨101, 47, 101, 48⟩) ⟨101, 16, 101, 48⟩) (.bin .Pow (.con (.int (10)) 0 ⟨101, 52, 101, 54⟩) (.con (.int (50)) 0 ⟨101, 58, 101, 60⟩) ⟨101, 52, 101, 60⟩) ⟨101, 15, 101, 60⟩) (.call 17 ⟨101, 63, 101, 72⟩ (.cons (.var 0 ⟨101, 73, 101, 86⟩) (.cons (.con (.int (1000)) 0 ⟨101, 88, 101, 92⟩) .nil)) ⟨101, 63, 101, 93⟩) ⟨101, 15, 101, 93⟩) ⟨101, 8, 101, 93⟩) .nil) .nil ⟨100, 4, 101, 93⟩) (.cons (.ret (.bin .Sub (.call 17 ⟨102, 11, 102, 20⟩ (.cons (.var 0 ⟨102, 21, 102, 34⟩) (.cons (.con (.int (41)) 0 ⟨102, 36, 102, 38⟩) .nil)) ⟨102, 11, 102, 39⟩) (.con (.int (20)) 0 ⟨102, 42, 102, 44⟩) ⟨102, 11, 102, 44⟩) ⟨102, 4, 102, 44⟩) .nil))))))
/-! _law_things : top 33 -/
def n33 : List Str := [(Str.ofString "_law_pot_here"), (Str.ofString "_law_many"), (Str.ofString "_law_found"), (Str.ofString "_law_turn"), (Str.ofString "_law_one")]
def b33 : Ss := (.cons (.asg 2 ⟨104, 4, 104, 14⟩ (.lst .nil ⟨104, 17, 104, 19⟩) ⟨104, 4, 104, 19⟩) (.cons (.fr 3 ⟨105, 8, 105, 17⟩ (.rng1 ⟨105, 21, 105, 26⟩ (.var 1 ⟨105, 27, 105, 36⟩) ⟨105, 21, 105, 37⟩) (.cons (.exp (.me .append (.var 2 ⟨106, 8, 106, 18⟩) ⟨106, 8, 106, 25⟩ (.cons (.call 21 ⟨106, 26, 106, 36⟩ (.cons (.var 0 ⟨106, 37, 106, 50⟩) (.cons (.lc (.var 4 ⟨106, 53, 106, 61⟩) 4 ⟨106, 66, 106, 74⟩ (.seq (.var 2 ⟨106, 78, 106, 88⟩)) (.cons (.cmp .NotIn (.var 4 ⟨106, 92, 106, 100⟩) (.tup (.cons (.con (.str (Str.ofString "bottom")) 0 ⟨106, 109, 106, 117⟩) (.cons (.con (.str (Str.ofString "top")) 0 ⟨106, 119, 106, 124⟩) .nil)) 0 ⟨106, 108, 106, 125⟩) ⟨106, 92, 106, 125⟩) .nil) { kind := .function, names := [((Str.ofString ".0"), .local), ((Str.ofString "_law_one"), .local)], isGenerator := false, isCoroutine := false, more := [] } ⟨106, 52, 106, 126⟩) .nil)) ⟨106, 26, 106, 127⟩) .nil) ⟨106, 8, 106, 128⟩) ⟨106, 8, 106, 128⟩) .nil) ⟨105, 4, 106, 128⟩) (.cons (.ret (.var 2 ⟨107, 11, 107, 21⟩) ⟨107, 4, 107, 21⟩) .nil)))
/-! _law_odd : top 34 -/
def n34 : List Str := [(Str.ofString "_law_pot_here")]
def b34 : Ss := (.cons (.ret (.call 18 ⟨109, 11, 109, 20⟩ (.cons (.var 0 ⟨109, 21, 109, 34⟩) (.cons (.lst (.cons (.con .none 0 ⟨109, 37, 109, 41⟩) (.cons (.con (.bool true) 0 ⟨109, 43, 109, 47⟩) (.cons (.con (.bool false) 0 ⟨109, 49, 109, 54⟩) (.cons (.con (.str (Str.ofString "")) 0 ⟨109, 56, 109, 58⟩) (.cons (.con (.str (Str.ofString "Bottom")) 0 ⟨109, 60, 109, 68⟩) (.cons (.con (.str (Str.ofString "TOP")) 0 ⟨109, 70, 109, 75⟩) (.cons (.con (.str (Str.ofString "bottom ")) 0 ⟨109, 77, 109, 86⟩) (.cons (.con (.str (Str.ofString "no bound")) 0 ⟨109, 88, 109, 98⟩) (.cons (.con (.str (Str.ofString "1")) 0 ⟨109, 100, 109, 103⟩) (.cons (.lst (.cons (.con (.int (1)) 0 ⟨109, 106, 109, 107⟩) .nil) ⟨109, 105, 109, 108⟩) (.cons (.tup (.cons (.con (.int (1)) 0 ⟨109, 111, 109, 112⟩) .nil) 0 ⟨109, 110, 109, 114⟩) (.cons (.dis .nil ⟨109, 116, 109, 118⟩) (.cons (.lst (.cons (.con (.str (Str.ofString "top")) 0 ⟨109, 121, 109, 126⟩) .nil) ⟨109, 120, 109, 127⟩) .nil))))))))))))) ⟨109, 36, 109, 128⟩) .nil)) ⟨109, 11, 109, 129⟩) ⟨109, 4, 109, 129⟩) .nil)
/-! _law_extreme : top 35 -/
def n35 : List Str := [(Str.ofString "_law_way"), (Str.ofString "_law_some")]
def b35 : Ss := (.cons (.iff (.cmp .Eq (.bi .len ⟨111, 7, 111, 10⟩ (.cons (.var 1 ⟨111, 11, 111, 20⟩) .nil) ⟨111, 7, 111, 21⟩) (.con (.int (0)) 0 ⟨111, 25, 111, 26⟩) ⟨111, 7, 111, 26⟩) (.cons (.ret (.idx (.lst (.cons (.call 12 ⟨112, 16, 112, 25⟩ .nil ⟨112, 16, 112, 27⟩) (.cons (.call 13 ⟨112, 29, 112, 39⟩ .nil ⟨112, 29, 112, 41⟩) .nil)) ⟨112, 15, 112, 42⟩) (.var 0 ⟨112, 43, 112, 51⟩) ⟨112, 15, 112, 52⟩) ⟨112, 8, 112, 52⟩) .nil) .nil ⟨111, 4, 112, 52⟩) (.cons (.iff (.cmp .Eq (.bi .len ⟨113, 7, 113, 10⟩ (.cons (.var 1 ⟨113, 11, 113, 20⟩) .nil) ⟨113, 7, 113, 21⟩) (.con (.int (1)) 0 ⟨113, 25, 113, 26⟩) ⟨113, 7, 113, 26⟩) (.cons (.ret (.ife (.cmp .Eq (.var 0 ⟨114, 42, 114, 50⟩) (.con (.int (0)) 0 ⟨114, 54, 114, 55⟩) ⟨114, 42, 114, 55⟩) (.call 12 ⟨114, 15, 114, 24⟩ (.cons (.idx (.var 1 ⟨114, 25, 114, 34⟩) (.con (.int (0)) 0 ⟨114, 35, 114, 36⟩) ⟨114, 25, 114, 37⟩) .nil) ⟨114, 15, 114, 38⟩) (.call 13 ⟨114, 61, 114, 71⟩ (.cons (.idx (.var 1 ⟨114, 72, 114, 81⟩) (.con (.int (0)) 0 ⟨114, 82, 114, 83⟩) ⟨114, 72, 114, 84⟩) .nil) ⟨114, 61, 114, 85⟩) ⟨114, 15, 114, 85⟩) ⟨114, 8, 114, 85⟩) .nil) .nil ⟨113, 4, 114, 85⟩) (.cons (.iff (.cmp .Eq (.bi .len ⟨115, 7, 115, 10⟩ (.cons (.var 1 ⟨115, 11, 115, 20⟩) .nil) ⟨115, 7, 115, 21⟩) (.con (.int (2)) 0 ⟨115, 25, 115, 26⟩) ⟨115, 7, 115, 26⟩) (.cons (.ret (.ife (.cmp .Eq (.var 0 ⟨116, 56, 116, 64⟩) (.con (.int (0)) 0 ⟨116, 68, 116, 69⟩) ⟨116, 56, 116, 69⟩) (.call 12 ⟨116, 15, 116, 24⟩ (.cons (.idx (.var 1 ⟨116, 25, 116, 34⟩) (.con (.int (0)) 0 ⟨116, 35, 116, 36⟩) ⟨116, 25, 116, 37⟩) (.cons (.idx (.var 1 ⟨116, 39, 116, 48⟩) (.con (.int (1)) 0 ⟨116, 49, 116, 50⟩) ⟨116, 39, 116, 51⟩) .nil)) ⟨116, 15, 116, 52⟩) (.call 13 ⟨116, 75, 116, 85⟩ (.cons (.idx (.var 1 ⟨116, 86, 116, 95⟩) (.con (.int (0)) 0 ⟨116, 96, 116, 97⟩) ⟨116, 86, 116, 98⟩) (.cons (.idx (.var 1 ⟨116, 100, 116, 109⟩) (.con (.int (1)) 0 ⟨116, 110, 116, 111⟩) ⟨116, 100, 116, 112⟩) .nil)) ⟨116, 75, 116, 113⟩) ⟨116, 15, 116, 113⟩) ⟨116, 8, 116, 113⟩) .nil) .nil ⟨115, 4, 116, 113⟩) (.cons (.iff (.cmp .Eq (.bi .len ⟨117, 7, 117, 10⟩ (.cons (.var 1 ⟨117, 11, 117, 20⟩) .nil) ⟨117, 7, 117, 21⟩) (.con (.int (3)) 0 ⟨117, 25, 117, 26⟩) ⟨117, 7, 117, 26⟩) (.cons (.ret (.ife (.cmp .Eq (.var 0 ⟨118, 70, 118, 78⟩) (.con (.int (0)) 0 ⟨118, 82, 118, 83⟩) ⟨118, 70, 118, 83⟩) (.call 12 ⟨118, 15, 118, 24⟩ (.cons (.idx (.var 1 ⟨118, 25, 118, 34⟩) (.con (.int (0)) 0 ⟨118, 35, 118, 36⟩) ⟨118, 25, 118, 37⟩) (.cons (.idx (.var 1 ⟨118, 39, 118, 48⟩) (.con (.int (1)) 0 ⟨118, 49, 118, 50⟩) ⟨118, 39, 118, 51⟩) (.cons (.idx (.var 1 ⟨118, 53, 118, 62⟩) (.con (.int (2)) 0 ⟨118, 63, 118, 64⟩) ⟨118, 53, 118, 65⟩) .nil))) ⟨118, 15, 118, 66⟩) (.call 13 ⟨118, 89, 118, 99⟩ (.cons (.idx (.var 1 ⟨118, 100, 118, 109⟩) (.con (.int (0)) 0 ⟨118, 110, 118, 111⟩) ⟨118, 100, 118, 112⟩) (.cons (.idx (.var 1 ⟨118, 114, 118, 123⟩) (.con (.int (1)) 0 ⟨118, 124, 118, 125⟩) ⟨118, 114, 118, 126⟩) (.cons (.idx (.var 1 ⟨118, 128, 118, 137⟩) (.con (.int (2)) 0 ⟨118, 138, 118, 139⟩) ⟨118, 128, 118, 140⟩) .nil))) ⟨118, 89, 118, 141⟩) ⟨118, 15, 118, 141⟩) ⟨118, 8, 118, 141⟩) .nil) .nil ⟨117, 4, 118, 141⟩) (.cons (.iff (.cmp .Eq (.var 0 ⟨119, 7, 119, 15⟩) (.con (.int (0)) 0 ⟨119, 19, 119, 20⟩) ⟨119, 7, 119, 20⟩) (.cons (.ret (.call 12 ⟨120, 15, 120, 24⟩ (.cons (.idx (.var 1 ⟨120, 25, 120, 34⟩) (.con (.int (0)) 0 ⟨120, 35, 120, 36⟩) ⟨120, 25, 120, 37⟩) (.cons (.idx (.var 1 ⟨120, 39, 120, 48⟩) (.con (.int (1)) 0 ⟨120, 49, 120, 50⟩) ⟨120, 39, 120, 51⟩) (.cons (.idx (.var 1 ⟨120, 53, 120, 62⟩) (.con (.int (2)) 0 ⟨120, 63, 120, 64⟩) ⟨120, 53, 120, 65⟩) (.cons (.idx (.var 1 ⟨120, 67, 120, 76⟩) (.con (.int (3)) 0 ⟨120, 77, 120, 78⟩) ⟨120, 67, 120, 79⟩) .nil)))) ⟨120, 15, 120, 80⟩) ⟨120, 8, 120, 80⟩) .nil) .nil ⟨119, 4, 120, 80⟩) (.cons (.ret (.call 13 ⟨121, 11, 121, 21⟩ (.cons (.idx (.var 1 ⟨121, 22, 121, 31⟩) (.con (.int (0)) 0 ⟨121, 32, 121, 33⟩) ⟨121, 22, 121, 34⟩) (.cons (.idx (.var 1 ⟨121, 36, 121, 45⟩) (.con (.int (1)) 0 ⟨121, 46, 121, 47⟩) ⟨121, 36, 121, 48⟩) (.cons (.idx (.var 1 ⟨121, 50, 121, 59⟩) (.con (.int (2)) 0 ⟨121, 60, 121, 61⟩) ⟨121, 50, 121, 62⟩) (.cons (.idx (.var 1 ⟨121, 64, 121, 73⟩) (.con (.int (3)) 0 ⟨121, 74, 121, 75⟩) ⟨121, 64, 121, 76⟩) .nil)))) ⟨121, 11, 121, 77⟩) ⟨121, 4, 121, 77⟩) .nil))))))
/-! _law_told : top 36 -/
def n36 : List Str := [(Str.ofString "_law_act"), (Str.ofString "_law_told_here"), (Str.ofString "e")]
/-! _law_pairs_right : top 37 -/
def n37 : List Str := [(Str.ofString "_law_things_here"), (Str.ofString "_law_one"), (Str.ofString "_law_two"), (Str.ofString "_law_marks"), (Str.ofString "_law_near"), (Str.ofString "_law_thing_here"), (Str.ofString "_law_mark"), (Str.ofString "_law_rank")]
def b37 : Ss := (.cons (.fr 1 ⟨134, 8, 134, 16⟩ (.seq (.var 0 ⟨134, 20, 134, 36⟩)) (.cons (.fr 2 ⟨135, 12, 135, 20⟩ (.seq (.var 0 ⟨135, 24, 135, 40⟩)) (.cons (.iff (.cmp .NotEq (.bi .repr ⟨136, 15, 136, 19⟩ (.cons (.call 11 ⟨136, 20, 136, 31⟩ (.cons (.var 1 ⟨136, 32, 136, 40⟩) (.cons (.var 2 ⟨136, 42, 136, 50⟩) .nil)) ⟨136, 20, 136, 51⟩) .nil) ⟨136, 15, 136, 52⟩) (.bi .repr ⟨136, 56, 136, 60⟩ (.cons (.cmp .GtE (.call 19 ⟨136, 61, 136, 72⟩ (.cons (.var 1 ⟨136, 73, 136, 81⟩) .nil) ⟨136, 61, 136, 82⟩) (.call 19 ⟨136, 86, 136, 97⟩ (.cons (.var 2 ⟨136, 98, 136, 106⟩) .nil) ⟨136, 86, 136, 107⟩) ⟨136, 61, 136, 107⟩) .nil) ⟨136, 56, 136, 108⟩) ⟨136, 15, 136, 108⟩) (.cons (.ret (.con (.bool false) 0 ⟨137, 23, 137, 28⟩) ⟨137, 16, 137, 28⟩) .nil) .nil ⟨136, 12, 137, 28⟩) (.cons (.asg 3 ⟨138, 12, 138, 22⟩ (.lc (.var 5 ⟨138, 26, 138, 41⟩) 5 ⟨138, 46, 138, 61⟩ (.seq (.lst (.cons (.var 1 ⟨138, 66, 138, 74⟩) (.cons (.var 2 ⟨138, 76, 138, 84⟩) .nil)) ⟨138, 65, 138, 85⟩)) (.cons (.cmp .NotIn (.var 5 ⟨138, 89, 138, 104⟩) (.tup (.cons (.con (.str (Str.ofString "bottom")) 0 ⟨138, 113, 138, 121⟩) (.cons (.con (.str (Str.ofString "top")) 0 ⟨138, 123, 138, 128⟩) .nil)) 0 ⟨138, 112, 138, 129⟩) ⟨138, 89, 138, 129⟩) .nil) { kind := .function, names := [((Str.ofString ".0"), .local), ((Str.ofString "_law_thing_here"), .local)], isGenerator := false, isCoroutine := false, more := [] } ⟨138, 25, 138, 130⟩) ⟨138, 12, 138, 130⟩) (.cons (.asg 4 ⟨139, 12, 139, 21⟩ (.bin .Add (.bin .Add (.var 3 ⟨139, 24, 139, 34⟩) (.lc (.bin .Add (.var 6 ⟨139, 38, 139, 47⟩) (.con (.int (1)) 0 ⟨139, 50, 139, 51⟩) ⟨139, 38, 139, 51⟩) 6 ⟨139, 56, 139, 65⟩ (.seq (.var 3 ⟨139, 69, 139, 79⟩)) .nil { kind := .function, names := [((Str.ofString ".0"), .local), ((Str.ofString "_law_mark"), .local)], isGenerator := false, isCoroutine := false, more := [] } ⟨139, 37, 139, 80⟩) ⟨139, 24, 139, 80⟩) (.lst (.cons (.con (.int (0)) 0 ⟨139, 84, 139, 85⟩) .nil) ⟨139, 83, 139, 86⟩) ⟨139, 24, 139, 86⟩) ⟨139, 12, 139, 86⟩) (.cons (.iff (.cmp .NotEq (.bi .all ⟨140, 15, 140, 18⟩ (.cons (.lc (.cmp .Eq (.call 14 ⟨140, 20, 140, 28⟩ (.cons (.var 1 ⟨140, 29, 140, 37⟩) (.cons (.var 7 ⟨140, 39, 140, 48⟩) .nil)) ⟨140, 20, 140, 49⟩) (.call 14 ⟨140, 53, 140, 61⟩ (.cons (.var 2 ⟨140, 62, 140, 70⟩) (.cons (.var 7 ⟨140, 72, 140, 81⟩) .nil)) ⟨140, 53, 140, 82⟩) ⟨140, 20, 140, 82⟩) 7 ⟨140, 87, 140, 96⟩ (.seq (.var 4 ⟨140, 100, 140, 109⟩)) .nil { kind := .function, names := [((Str.ofString ".0"), .local), ((Str.ofString "_law_rank"), .local), ((Str.ofString "at_level"), .globalImplicit), ((Str.ofString "_law_one"), .free), ((Str.ofString "_law_two"), .free)], isGenerator := false, isCoroutine := false, more := [] } ⟨140, 19, 140, 110⟩) .nil) ⟨140, 15, 140, 111⟩) (.cmp .Eq (.var 1 ⟨140, 116, 140, 124⟩) (.var 2 ⟨140, 128, 140, 136⟩) ⟨140, 116, 140, 136⟩) ⟨140, 15, 140, 137⟩) (.cons (.ret (.con (.bool false) 0 ⟨141, 23, 141, 28⟩) ⟨141, 16, 141, 28⟩) .nil) .nil ⟨140, 12, 141, 28⟩) .nil)))) ⟨135, 8, 141, 28⟩) .nil) ⟨134, 4, 141, 28⟩) (.cons (.ret (.con (.bool true) 0 ⟨142, 11, 142, 15⟩) ⟨142, 4, 142, 15⟩) .nil))
/-! _law_levels_right : top 38 -/
def n38 : List Str := [(Str.ofString "_law_pot_here"), (Str.ofString "_law_things_here"), (Str.ofString "_law_one"), (Str.ofString "_law_own"), (Str.ofString "_law_rank"), (Str.ofString "_law_due"), (Str.ofString "_law_shown_here"), (Str.ofString "_law_told_here")]
def b38 : Ss := (.cons (.fr 2 ⟨144, 8, 144, 16⟩ (.seq (.bin .Add (.var 1 ⟨144, 20, 144, 36⟩) (.lst (.cons (.con (.str (Str.ofString "bottom")) 0 ⟨144, 40, 144, 48⟩) (.cons (.con (.str (Str.ofString "top")) 0 ⟨144, 50, 144, 55⟩) .nil)) ⟨144, 39, 144, 56⟩) ⟨144, 20, 144, 56⟩)) (.cons (.asg 3 ⟨145, 8, 145, 16⟩ (.ife (.cmp .NotIn (.var 2 ⟨145, 61, 145, 69⟩) (.tup (.cons (.con (.str (Str.ofString "bottom")) 0 ⟨145, 78, 145, 86⟩) (.cons (.con (.str (Str.ofString "top")) 0 ⟨145, 88, 145, 93⟩) .nil)) 0 ⟨145, 77, 145, 94⟩) ⟨145, 61, 145, 94⟩) (.lst (.cons (.var 2 ⟨145, 20, 145, 28⟩) (.cons (.bin .Add (.var 2 ⟨145, 30, 145, 38⟩) (.con (.int (1)) 0 ⟨145, 41, 145, 42⟩) ⟨145, 30, 145, 42⟩) (.cons (.bin .Sub (.var 2 ⟨145, 44, 145, 52⟩) (.con (.int (1)) 0 ⟨145, 55, 145, 56⟩) ⟨145, 44, 145, 56⟩) .nil))) ⟨145, 19, 145, 57⟩) (.lst .nil ⟨145, 100, 145, 102⟩) ⟨145, 19, 145, 102⟩) ⟨145, 8, 145, 102⟩) (.cons (.fr 4 ⟨146, 12, 146, 21⟩ (.seq (.bin .Add (.var 3 ⟨146, 25, 146, 33⟩) (.lst (.cons (.con (.int (0)) 0 ⟨146, 37, 146, 38⟩) (.cons (.bin .Sub (.call 17 ⟨146, 40, 146, 49⟩ (.cons (.var 0 ⟨146, 50, 146, 63⟩) (.cons (.con (.int (41)) 0 ⟨146, 65, 146, 67⟩) .nil)) ⟨146, 40, 146, 68⟩) (.con (.int (20)) 0 ⟨146, 71, 146, 73⟩) ⟨146, 40, 146, 73⟩) (.cons (.bin .Pow (.con (.int (10)) 0 ⟨146, 75, 146, 77⟩) (.con (.int (60)) 0 ⟨146, 81, 146, 83⟩) ⟨146, 75, 146, 83⟩) (.cons (.neg (.bin .Pow (.con (.int (10)) 0 ⟨146, 86, 146, 88⟩) (.con (.int (59)) 0 ⟨146, 92, 146, 94⟩) ⟨146, 86, 146, 94⟩) ⟨146, 85, 146, 94⟩) .nil)))) ⟨146, 36, 146, 95⟩) ⟨146, 25, 146, 95⟩)) (.cons (.asg 5 ⟨147, 12, 147, 20⟩ (.idx (.lst (.cons (.con (.str (Str.ofString "bottom")) 0 ⟨147, 24, 147, 32⟩) (.cons (.con (.str (Str.ofString "top")) 0 ⟨147, 34, 147, 39⟩) .nil)) ⟨147, 23, 147, 40⟩) (.bi .int ⟨147, 41, 147, 44⟩ (.cons (.cmp .GtE (.call 19 ⟨147, 45, 147, 56⟩ (.cons (.var 2 ⟨147, 57, 147, 65⟩) .nil) ⟨147, 45, 147, 66⟩) (.var 4 ⟨147, 70, 147, 79⟩) ⟨147, 45, 147, 79⟩) .nil) ⟨147, 41, 147, 80⟩) ⟨147, 23, 147, 81⟩) ⟨147, 12, 147, 81⟩) (.cons (.iff (.bop .Or (.cons (.cmp .NotEq (.bi .repr ⟨148, 15, 148, 19⟩ (.cons (.call 14 ⟨148, 20, 148, 28⟩ (.cons (.var 2 ⟨148, 29, 148, 37⟩) (.cons (.var 4 ⟨148, 39, 148, 48⟩) .nil)) ⟨148, 20, 148, 49⟩) .nil) ⟨148, 15, 148, 50⟩) (.bi .repr ⟨148, 54, 148, 58⟩ (.cons (.var 5 ⟨148, 59, 148, 67⟩) .nil) ⟨148, 54, 148, 68⟩) ⟨148, 15, 148, 68⟩) (.cons (.cmp .NotEq (.bi .repr ⟨148, 72, 148, 76⟩ (.cons (.callk 14 ⟨148, 77, 148, 85⟩ [((Str.ofString "value"), ⟨148, 86, 148, 100⟩), ((Str.ofString "level"), ⟨148, 102, 148, 117⟩)] (.cons (.var 2 ⟨148, 92, 148, 100⟩) (.cons (.var 4 ⟨148, 108, 148, 117⟩) .nil)) ⟨148, 77, 148, 118⟩) .nil) ⟨148, 72, 148, 119⟩) (.bi .repr ⟨148, 123, 148, 127⟩ (.cons (.var 5 ⟨148, 128, 148, 136⟩) .nil) ⟨148, 123, 148, 137⟩) ⟨148, 72, 148, 137⟩) .nil)) ⟨148, 15, 148, 137⟩) (.cons (.ret (.con (.bool false) 0 ⟨149, 23, 149, 28⟩) ⟨149, 16, 149, 28⟩) .nil) .nil ⟨148, 12, 149, 28⟩) .nil)) ⟨146, 8, 149, 28⟩) .nil)) ⟨144, 4, 149, 28⟩) (.cons (.asg 5 ⟨150, 4, 150, 12⟩ (.rev (.srs ⟨150, 15, 150, 21⟩ ⟨150, 22, 150, 25⟩ (.lc (.var 2 ⟨150, 27, 150, 35⟩) 2 ⟨150, 40, 150, 48⟩ (.seq (.var 1 ⟨150, 52, 150, 68⟩)) (.cons (.cmp .NotIn (.var 2 ⟨150, 72, 150, 80⟩) (.tup (.cons (.con (.str (Str.ofString "bottom")) 0 ⟨150, 89, 150, 97⟩) (.cons (.con (.str (Str.ofString "top")) 0 ⟨150, 99, 150, 104⟩) .nil)) 0 ⟨150, 88, 150, 105⟩) ⟨150, 72, 150, 105⟩) .nil) { kind := .function, names := [((Str.ofString ".0"), .local), ((Str.ofString "_law_one"), .local)], isGenerator := false, isCoroutine := false, more := [] } ⟨150, 26, 150, 106⟩) ⟨150, 22, 150, 107⟩ ⟨150, 15, 150, 108⟩) 0 ⟨150, 112, 150, 113⟩ ⟨150, 111, 150, 113⟩ ⟨150, 109, 150, 113⟩ ⟨150, 15, 150, 114⟩) ⟨150, 4, 150, 114⟩) (.cons (.asg 6 ⟨151, 4, 151, 19⟩ (.bi .repr ⟨151, 22, 151, 26⟩ (.cons (.var 1 ⟨151, 27, 151, 43⟩) .nil) ⟨151, 22, 151, 44⟩) ⟨151, 4, 151, 44⟩) (.cons (.asg 7 ⟨152, 4, 152, 18⟩ (.call 15 ⟨152, 21, 152, 30⟩ (.cons (.var 1 ⟨152, 31, 152, 47⟩) .nil) ⟨152, 21, 152, 48⟩) ⟨152, 4, 152, 48⟩) (.cons (.iff (.bop .Or (.cons (.cmp .NotEq (.bi .repr ⟨153, 7, 153, 11⟩ (.cons (.var 7 ⟨153, 12, 153, 26⟩) .nil) ⟨153, 7, 153, 27⟩) (.bi .repr ⟨153, 31, 153, 35⟩ (.cons (.var 5 ⟨153, 36, 153, 44⟩) .nil) ⟨153, 31, 153, 45⟩) ⟨153, 7, 153, 45⟩) (.cons (.cmp .NotEq (.bi .repr ⟨153, 49, 153, 53⟩ (.cons (.call 15 ⟨153, 54, 153, 63⟩ (.cons (.bi .tuple ⟨153, 64, 153, 69⟩ (.cons (.var 1 ⟨153, 70, 153, 86⟩) .nil) ⟨153, 64, 153, 87⟩) .nil) ⟨153, 54, 153, 88⟩) .nil) ⟨153, 49, 153, 89⟩) (.bi .repr ⟨153, 93, 153, 97⟩ (.cons (.var 5 ⟨153, 98, 153, 106⟩) .nil) ⟨153, 93, 153, 107⟩) ⟨153, 49, 153, 107⟩) .nil)) ⟨153, 7, 153, 107⟩) (.cons (.ret (.con (.bool false) 0 ⟨154, 15, 154, 20⟩) ⟨154, 8, 154, 20⟩) .nil) .nil ⟨153, 4, 154, 20⟩) (.cons (.exp (.me .append (.var 7 ⟨155, 4, 155, 18⟩) ⟨155, 4, 155, 25⟩ (.cons (.con (.str (Str.ofString "more")) 0 ⟨155, 26, 155, 32⟩) .nil) ⟨155, 4, 155, 33⟩) ⟨155, 4, 155, 33⟩) (.cons (.ret (.bop .And (.cons (.cmp .Eq (.bi .repr ⟨156, 11, 156, 15⟩ (.cons (.call 15 ⟨156, 16, 156, 25⟩ (.cons (.var 1 ⟨156, 26, 156, 42⟩) .nil) ⟨156, 16, 156, 43⟩) .nil) ⟨156, 11, 156, 44⟩) (.bi .repr ⟨156, 48, 156, 52⟩ (.cons (.var 5 ⟨156, 53, 156, 61⟩) .nil) ⟨156, 48, 156, 62⟩) ⟨156, 11, 156, 62⟩) (.cons (.cmp .Eq (.bi .repr ⟨156, 67, 156, 71⟩ (.cons (.var 1 ⟨156, 72, 156, 88⟩) .nil) ⟨156, 67, 156, 89⟩) (.var 6 ⟨156, 93, 156, 108⟩) ⟨156, 67, 156, 108⟩) .nil)) ⟨156, 11, 156, 108⟩) ⟨156, 4, 156, 108⟩) .nil)))))))
/-! _law_extremes_right : top 39 -/
def n39 : List Str := [(Str.ofString "_law_some"), (Str.ofString "_law_numbers"), (Str.ofString "_law_due"), (Str.ofString "_law_one")]
def b39 : Ss := (.cons (.asg 1 ⟨158, 4, 158, 16⟩ (.lc (.call 19 ⟨158, 20, 158, 31⟩ (.cons (.var 3 ⟨158, 32, 158, 40⟩) .nil) ⟨158, 20, 158, 41⟩) 3 ⟨158, 46, 158, 54⟩ (.seq (.var 0 ⟨158, 58, 158, 67⟩)) .nil { kind := .function, names := [((Str.ofString ".0"), .local), ((Str.ofString "_law_one"), .local), ((Str.ofString "_law_number"), .globalImplicit)], isGenerator := false, isCoroutine := false, more := [] } ⟨158, 19, 158, 68⟩) ⟨158, 4, 158, 68⟩) (.cons (.asg 2 ⟨159, 4, 159, 12⟩ (.ife (.cmp .NotEq (.var 0 ⟨159, 81, 159, 90⟩) (.lst .nil ⟨159, 94, 159, 96⟩) ⟨159, 81, 159, 96⟩) (.lst (.cons (.call 20 ⟨159, 16, 159, 26⟩ (.cons (.bi .min ⟨159, 27, 159, 30⟩ (.cons (.var 1 ⟨159, 31, 159, 43⟩) .nil) ⟨159, 27, 159, 44⟩) .nil) ⟨159, 16, 159, 45⟩) (.cons (.call 20 ⟨159, 47, 159, 57⟩ (.cons (.bi .max ⟨159, 58, 159, 61⟩ (.cons (.var 1 ⟨159, 62, 159, 74⟩) .nil) ⟨159, 58, 159, 75⟩) .nil) ⟨159, 47, 159, 76⟩) .nil)) ⟨159, 15, 159, 77⟩) (.lst (.cons (.con (.str (Str.ofString "top")) 0 ⟨159, 103, 159, 108⟩) (.cons (.con (.str (Str.ofString "bottom")) 0 ⟨159, 110, 159, 118⟩) .nil)) ⟨159, 102, 159, 119⟩) ⟨159, 15, 159, 119⟩) ⟨159, 4, 159, 119⟩) (.cons (.ret (.cmp .Eq (.bi .repr ⟨160, 11, 160, 15⟩ (.cons (.lst (.cons (.call 24 ⟨160, 17, 160, 29⟩ (.cons (.con (.int (0)) 0 ⟨160, 30, 160, 31⟩) (.cons (.var 0 ⟨160, 33, 160, 42⟩) .nil)) ⟨160, 17, 160, 43⟩) (.cons (.call 24 ⟨160, 45, 160, 57⟩ (.cons (.con (.int (1)) 0 ⟨160, 58, 160, 59⟩) (.cons (.var 0 ⟨160, 61, 160, 70⟩) .nil)) ⟨160, 45, 160, 71⟩) .nil)) ⟨160, 16, 160, 72⟩) .nil) ⟨160, 11, 160, 73⟩) (.bi .repr ⟨160, 77, 160, 81⟩ (.cons (.var 2 ⟨160, 82, 160, 90⟩) .nil) ⟨160, 77, 160, 91⟩) ⟨160, 11, 160, 91⟩) ⟨160, 4, 160, 91⟩) .nil)))
/-! _law_eight_right : top 40 -/
def n40 : List Str := [(Str.ofString "_law_pot_here"), (Str.ofString "_law_x"), (Str.ofString "_law_numbers"), (Str.ofString "_law_told_here"), (Str.ofString "_law_one")]
def b40 : Ss := (.cons (.asg 1 ⟨162, 4, 162, 10⟩ (.call 22 ⟨162, 13, 162, 24⟩ (.cons (.var 0 ⟨162, 25, 162, 38⟩) (.cons (.con (.int (8)) 0 ⟨162, 40, 162, 41⟩) .nil)) ⟨162, 13, 162, 42⟩) ⟨162, 4, 162, 42⟩) (.cons (.asg 2 ⟨163, 4, 163, 16⟩ (.lc (.call 19 ⟨163, 20, 163, 31⟩ (.cons (.var 4 ⟨163, 32, 163, 40⟩) .nil) ⟨163, 20, 163, 41⟩) 4 ⟨163, 46, 163, 54⟩ (.seq (.var 1 ⟨163, 58, 163, 64⟩)) .nil { kind := .function, names := [((Str.ofString ".0"), .local), ((Str.ofString "_law_one"), .local), ((Str.ofString "_law_number"), .globalImplicit)], isGenerator := false, isCoroutine := false, more := [] } ⟨163, 19, 163, 65⟩) ⟨163, 4, 163, 65⟩) (.cons (.asg 3 ⟨164, 4, 164, 18⟩ (.lst (.cons (.call 12 ⟨164, 22, 164, 31⟩ (.cons (.idx (.var 1 ⟨164, 32, 164, 38⟩) (.con (.int (0)) 0 ⟨164, 39, 164, 40⟩) ⟨164, 32, 164, 41⟩) (.cons (.idx (.var 1 ⟨164, 43, 164, 49⟩) (.con (.int (1)) 0 ⟨164, 50, 164, 51⟩) ⟨164, 43, 164, 52⟩) (.cons (.idx (.var 1 ⟨164, 54, 164, 60⟩) (.con (.int (2)) 0 ⟨164, 61, 164, 62⟩) ⟨164, 54, 164, 63⟩) (.cons (.idx (.var 1 ⟨164, 65, 164, 71⟩) (.con (.int (3)) 0 ⟨164, 72, 164, 73⟩) ⟨164, 65, 164, 74⟩) (.cons (.idx (.var 1 ⟨164, 76, 164, 82⟩) (.con (.int (4)) 0 ⟨164, 83, 164, 84⟩) ⟨164, 76, 164, 85⟩) (.cons (.idx (.var 1 ⟨164, 87, 164, 93⟩) (.con (.int (5)) 0 ⟨164, 94, 164, 95⟩) ⟨164, 87, 164, 96⟩) (.cons (.idx (.var 1 ⟨164, 98, 164, 104⟩) (.con (.int (6)) 0 ⟨164, 105, 164, 106⟩) ⟨164, 98, 164, 107⟩) (.cons (.idx (.var 1 ⟨164, 109, 164, 115⟩) (.con (.int (7)) 0 ⟨164, 116, 164, 117⟩) ⟨164, 109, 164, 118⟩) .nil)))))))) ⟨164, 22, 164, 119⟩) .nil) ⟨164, 21, 164, 120⟩) ⟨164, 4, 164, 120⟩) (.cons (.exp (.me .append (.var 3 ⟨165, 4, 165, 18⟩) ⟨165, 4, 165, 25⟩ (.cons (.call 13 ⟨165, 26, 165, 36⟩ (.cons (.idx (.var 1 ⟨165, 37, 165, 43⟩) (.con (.int (0)) 0 ⟨165, 44, 165, 45⟩) ⟨165, 37, 165, 46⟩) (.cons (.idx (.var 1 ⟨165, 48, 165, 54⟩) (.con (.int (1)) 0 ⟨165, 55, 165, 56⟩) ⟨165, 48, 165, 57⟩) (.cons (.idx (.var 1 ⟨165, 59, 165, 65⟩) (.con (.int (2)) 0 ⟨165, 66, 165, 67⟩) ⟨165, 59, 165, 68⟩) (.cons (.idx (.var 1 ⟨165, 70, 165, 76⟩) (.con (.int (3)) 0 ⟨165, 77, 165, 78⟩) ⟨165, 70, 165, 79⟩) (.cons (.idx (.var 1 ⟨165, 81, 165, 87⟩) (.con (.int (4)) 0 ⟨165, 88, 165, 89⟩) ⟨165, 81, 165, 90⟩) (.cons (.idx (.var 1 ⟨165, 92, 165, 98⟩) (.con (.int (5)) 0 ⟨165, 99, 165, 100⟩) ⟨165, 92, 165, 101⟩) (.cons (.idx (.var 1 ⟨165, 103, 165, 109⟩) (.con (.int (6)) 0 ⟨165, 110, 165, 111⟩) ⟨165, 103, 165, 112⟩) (.cons (.idx (.var 1 ⟨165, 114, 165, 120⟩) (.con (.int (7)) 0 ⟨165, 121, 165, 122⟩) ⟨165, 114, 165, 123⟩) .nil)))))))) ⟨165, 26, 165, 124⟩) .nil) ⟨165, 4, 165, 125⟩) ⟨165, 4, 165, 125⟩) (.cons (.ret (.cmp .Eq (.bi .repr ⟨166, 11, 166, 15⟩ (.cons (.var 3 ⟨166, 16, 166, 30⟩) .nil) ⟨166, 11, 166, 31⟩) (.bi .repr ⟨166, 35, 166, 39⟩ (.cons (.lst (.cons (.call 20 ⟨166, 41, 166, 51⟩ (.cons (.bi .min ⟨166, 52, 166, 55⟩ (.cons (.var 2 ⟨166, 56, 166, 68⟩) .nil) ⟨166, 52, 166, 69⟩) .nil) ⟨166, 41, 166, 70⟩) (.cons (.call 20 ⟨166, 72, 166, 82⟩ (.cons (.bi .max ⟨166, 83, 166, 86⟩ (.cons (.var 2 ⟨166, 87, 166, 99⟩) .nil) ⟨166, 83, 166, 100⟩) .nil) ⟨166, 72, 166, 101⟩) .nil)) ⟨166, 40, 166, 102⟩) .nil) ⟨166, 35, 166, 103⟩) ⟨166, 11, 166, 103⟩) ⟨166, 4, 166, 103⟩) .nil)))))
/-! _law_refused_right : top 41 -/
def n41 : List Str := [(Str.ofString "_law_pot_here"), (Str.ofString "_law_things_here"), (Str.ofString "_law_told_here"), (Str.ofString "_law_more"), (Str.ofString "_law_odd_here"), (Str.ofString "_law_rank"), (Str.ofString "_law_some"), (Str.ofString "_law_wrong")]
def b41 : Ss := (.cons (.unp (.nm 4 ⟨168, 4, 168, 17⟩) (.nm 3 ⟨168, 19, 168, 28⟩) 0 ⟨168, 4, 168, 28⟩ (.tup (.cons (.call 23 ⟨168, 32, 168, 40⟩ (.cons (.var 0 ⟨168, 41, 168, 54⟩) .nil) ⟨168, 32, 168, 55⟩) (.cons (.call 23 ⟨168, 57, 168, 65⟩ (.cons (.var 0 ⟨168, 66, 168, 79⟩) .nil) ⟨168, 57, 168, 80⟩) .nil)) 0 ⟨168, 31, 168, 81⟩) ⟨168, 4, 168, 81⟩) (.cons (.asg 6 ⟨169, 4, 169, 13⟩ (.sli (.var 1 ⟨169, 16, 169, 32⟩) none (some (.con (.int (2)) 0 ⟨169, 34, 169, 35⟩)) ⟨169, 33, 169, 35⟩ ⟨169, 16, 169, 36⟩) ⟨169, 4, 169, 36⟩) (.cons (.exp (.me .insert (.var 6 ⟨170, 4, 170, 13⟩) ⟨170, 4, 170, 20⟩ (.cons (.call 17 ⟨170, 21, 170, 30⟩ (.cons (.var 0 ⟨170, 31, 170, 44⟩) (.cons (.bin .Add (.bi .len ⟨170, 46, 170, 49⟩ (.cons (.var 6 ⟨170, 50, 170, 59⟩) .nil) ⟨170, 46, 170, 60⟩) (.con (.int (1)) 0 ⟨170, 63, 170, 64⟩) ⟨170, 46, 170, 64⟩) .nil)) ⟨170, 21, 170, 65⟩) (.cons (.var 4 ⟨170, 67, 170, 80⟩) .nil)) ⟨170, 4, 170, 81⟩) ⟨170, 4, 170, 81⟩) (.cons (.iff (.cmp .NotEq (.told 25 ⟨171, 7, 171, 16⟩ (.call 24 ⟨171, 25, 171, 37⟩ (.cons (.con (.int (0)) 0 ⟨171, 38, 171, 39⟩) (.cons (.bin .Add (.var 6 ⟨171, 41, 171, 50⟩) (.lst (.cons (.var 3 ⟨171, 54, 171, 63⟩) .nil) ⟨171, 53, 171, 64⟩) ⟨171, 41, 171, 64⟩) .nil)) ⟨171, 25, 171, 65⟩) { posonlyargs := [], args := [], vararg := none, kwonlyargs := [], kw_defaults := [], kwarg := none, defaults := [] } { kind := .function, names := [((Str.ofString "_law_more"), .free), ((Str.ofString "_law_some"), .free), ((Str.ofString "_law_extreme"), .globalImplicit)], isGenerator := false, isCoroutine := false, more := [] } ⟨171, 17, 171, 65⟩ ⟨171, 7, 171, 66⟩) (.bi .repr ⟨171, 70, 171, 74⟩ (.cons (.lst (.cons (.con (.str (Str.ofString "value")) 0 ⟨171, 76, 171, 83⟩) (.cons (.var 4 ⟨171, 85, 171, 98⟩) (.cons (.con (.bool true) 0 ⟨171, 100, 171, 104⟩) .nil))) ⟨171, 75, 171, 105⟩) .nil) ⟨171, 70, 171, 106⟩) ⟨171, 7, 171, 106⟩) (.cons (.ret (.con (.bool false) 0 ⟨172, 15, 172, 20⟩) ⟨172, 8, 172, 20⟩) .nil) .nil ⟨171, 4, 172, 20⟩) (.cons (.iff (.bop .Or (.cons (.cmp .NotEq (.told 25 ⟨173, 7, 173, 16⟩ (.call 24 ⟨173, 25, 173, 37⟩ (.cons (.con (.int (1)) 0 ⟨173, 38, 173, 39⟩) (.cons (.var 6 ⟨173, 41, 173, 50⟩) .nil)) ⟨173, 25, 173, 51⟩) { posonlyargs := [], args := [], vararg := none, kwonlyargs := [], kw_defaults := [], kwarg := none, defaults := [] } { kind := .function, names := [((Str.ofString "_law_some"), .free), ((Str.ofString "_law_extreme"), .globalImplicit)], isGenerator := false, isCoroutine := false, more := [] } ⟨173, 17, 173, 51⟩ ⟨173, 7, 173, 52⟩) (.bi .repr ⟨173, 56, 173, 60⟩ (.cons (.lst (.cons (.con (.str (Str.ofString "value")) 0 ⟨173, 62, 173, 69⟩) (.cons (.var 4 ⟨173, 71, 173, 84⟩) (.cons (.con (.bool true) 0 ⟨173, 86, 173, 90⟩) .nil))) ⟨173, 61, 173, 91⟩) .nil) ⟨173, 56, 173, 92⟩) ⟨173, 7, 173, 92⟩) (.cons (.cmp .NotEq (.bi .repr ⟨173, 96, 173, 100⟩ (.cons (.call 3 ⟨173, 101, 173, 109⟩ (.cons (.var 4 ⟨173, 110, 173, 123⟩) .nil) ⟨173, 101, 173, 124⟩) .nil) ⟨173, 96, 173, 125⟩) (.con (.str (Str.ofString "False")) 0 ⟨173, 129, 173, 136⟩) ⟨173, 96, 173, 136⟩) .nil)) ⟨173, 7, 173, 136⟩) (.cons (.ret (.con (.bool false) 0 ⟨174, 15, 174, 20⟩) ⟨174, 8, 174, 20⟩) .nil) .nil ⟨173, 4, 174, 20⟩) (.cons (.asg 2 ⟨175, 4, 175, 18⟩ (.lst (.cons (.told 25 ⟨175, 22, 175, 31⟩ (.call 11 ⟨175, 40, 175, 51⟩ (.cons (.var 4 ⟨175, 52, 175, 65⟩) (.cons (.var 3 ⟨175, 67, 175, 76⟩) .nil)) ⟨175, 40, 175, 77⟩) { posonlyargs := [], args := [], vararg := none, kwonlyargs := [], kw_defaults := [], kwarg := none, defaults := [] } { kind := .function, names := [((Str.ofString "_law_more"), .free), ((Str.ofString "_law_odd_here"), .free), ((Str.ofString "is_at_least"), .globalImplicit)], isGenerator := false, isCoroutine := false, more := [] } ⟨175, 32, 175, 77⟩ ⟨175, 22, 175, 78⟩) .nil) ⟨175, 21, 175, 79⟩) ⟨175, 4, 175, 79⟩) (.cons (.exp (.me .append (.var 2 ⟨176, 4, 176, 18⟩) ⟨176, 4, 176, 25⟩ (.cons (.told 25 ⟨176, 26, 176, 35⟩ (.call 11 ⟨176, 44, 176, 55⟩ (.cons (.con (.int (3)) 0 ⟨176, 56, 176, 57⟩) (.cons (.var 4 ⟨176, 59, 176, 72⟩) .nil)) ⟨176, 44, 176, 73⟩) { posonlyargs := [], args := [], vararg := none, kwonlyargs := [], kw_defaults := [], kwarg := none, defaults := [] } { kind := .function, names := [((Str.ofString "_law_odd_here"), .free), ((Str.ofString "is_at_least"), .globalImplicit)], isGenerator := false, isCoroutine := false, more := [] } ⟨176, 36, 176, 73⟩ ⟨176, 26, 176, 74⟩) .nil) ⟨176, 4, 176, 75⟩) ⟨176, 4, 176, 75⟩) (.cons (.exp (.me .append (.var 2 ⟨177, 4, 177, 18⟩) ⟨177, 4, 177, 25⟩ (.cons (.told 25 ⟨177, 26, 177, 35⟩ (.call 14 ⟨177, 44, 177, 52⟩ (.cons (.var 4 ⟨177, 53, 177, 66⟩) (.cons (.con (.str (Str.ofString "top")) 0 ⟨177, 68, 177, 73⟩) .nil)) ⟨177, 44, 177, 74⟩) { posonlyargs := [], args := [], vararg := none, kwonlyargs := [], kw_defaults := [], kwarg := none, defaults := [] } { kind := .function, names := [((Str.ofString "_law_odd_here"), .free), ((Str.ofString "at_level"), .globalImplicit)], isGenerator := false, isCoroutine := false, more := [] } ⟨177, 36, 177, 74⟩ ⟨177, 26, 177, 75⟩) .nil) ⟨177, 4, 177, 76⟩) ⟨177, 4, 177, 76⟩) (.cons (.iff (.cmp .NotEq (.var 2 ⟨178, 7, 178, 21⟩) (.bin .Mult (.lst (.cons (.bi .repr ⟨178, 26, 178, 30⟩ (.cons (.lst (.cons (.con (.str (Str.ofString "value")) 0 ⟨178, 32, 178, 39⟩) (.cons (.var 4 ⟨178, 41, 178, 54⟩) (.cons (.con (.bool true) 0 ⟨178, 56, 178, 60⟩) .nil))) ⟨178, 31, 178, 61⟩) .nil) ⟨178, 26, 178, 62⟩) .nil) ⟨178, 25, 178, 63⟩) (.con (.int (3)) 0 ⟨178, 66, 178, 67⟩) ⟨178, 25, 178, 67⟩) ⟨178, 7, 178, 67⟩) (.cons (.ret (.con (.bool false) 0 ⟨179, 15, 179, 20⟩) ⟨179, 8, 179, 20⟩) .nil) .nil ⟨178, 4, 179, 20⟩) (.cons (.asg 5 ⟨180, 4, 180, 13⟩ (.call 18 ⟨180, 16, 180, 25⟩ (.cons (.var 0 ⟨180, 26, 180, 39⟩) (.cons (.lst (.cons (.con (.str (Str.ofString "top")) 0 ⟨180, 42, 180, 47⟩) (.cons (.con (.str (Str.ofString "bottom")) 0 ⟨180, 49, 180, 57⟩) (.cons (.con (.bool true) 0 ⟨180, 59, 180, 63⟩) (.cons (.con (.bool false) 0 ⟨180, 65, 180, 70⟩) (.cons (.con .none 0 ⟨180, 72, 180, 76⟩) (.cons (.con (.str (Str.ofString "1")) 0 ⟨180, 78, 180, 81⟩) (.cons (.lst (.cons (.con (.int (1)) 0 ⟨180, 84, 180, 85⟩) .nil) ⟨180, 83, 180, 86⟩) (.cons (.tup (.cons (.con (.int (0)) 0 ⟨180, 89, 180, 90⟩) .nil) 0 ⟨180, 88, 180, 92⟩) (.cons (.dis .nil ⟨180, 94, 180, 96⟩) .nil))))))))) ⟨180, 41, 180, 97⟩) .nil)) ⟨180, 16, 180, 98⟩) ⟨180, 4, 180, 98⟩) (.cons (.iff (.cmp .NotEq (.told 25 ⟨181, 7, 181, 16⟩ (.call 14 ⟨181, 25, 181, 33⟩ (.cons (.call 18 ⟨181, 34, 181, 43⟩ (.cons (.var 0 ⟨181, 44, 181, 57⟩) (.cons (.lst (.cons (.con (.str (Str.ofString "top")) 0 ⟨181, 60, 181, 65⟩) (.cons (.con (.int (5)) 0 ⟨181, 67, 181, 68⟩) (.cons (.neg (.bin .Pow (.con (.int (10)) 0 ⟨181, 71, 181, 73⟩) (.con (.int (40)) 0 ⟨181, 77, 181, 79⟩) ⟨181, 71, 181, 79⟩) ⟨181, 70, 181, 79⟩) .nil))) ⟨181, 59, 181, 80⟩) .nil)) ⟨181, 34, 181, 81⟩) (.cons (.var 5 ⟨181, 83, 181, 92⟩) .nil)) ⟨181, 25, 181, 93⟩) { posonlyargs := [], args := [], vararg := none, kwonlyargs := [], kw_defaults := [], kwarg := none, defaults := [] } { kind := .function, names := [((Str.ofString "_law_pot_here"), .free), ((Str.ofString "_law_rank"), .free), ((Str.ofString "at_level"), .globalImplicit), ((Str.ofString "_law_pick"), .globalImplicit)], isGenerator := false, isCoroutine := false, more := [] } ⟨181, 17, 181, 93⟩ ⟨181, 7, 181, 94⟩) (.bi .repr ⟨181, 98, 181, 102⟩ (.cons (.lst (.cons (.con (.str (Str.ofString "integer")) 0 ⟨181, 104, 181, 113⟩) (.cons (.var 5 ⟨181, 115, 181, 124⟩) (.cons (.con (.bool true) 0 ⟨181, 126, 181, 130⟩) .nil))) ⟨181, 103, 181, 131⟩) .nil) ⟨181, 98, 181, 132⟩) ⟨181, 7, 181, 132⟩) (.cons (.ret (.con (.bool false) 0 ⟨182, 15, 182, 20⟩) ⟨182, 8, 182, 20⟩) .nil) .nil ⟨181, 4, 182, 20⟩) (.cons (.asg 7 ⟨183, 4, 183, 14⟩ (.call 18 ⟨183, 17, 183, 26⟩ (.cons (.var 0 ⟨183, 27, 183, 40⟩) (.cons (.lst (.cons (.con .none 0 ⟨183, 43, 183, 47⟩) (.cons (.con (.int (5)) 0 ⟨183, 49, 183, 50⟩) (.cons (.con (.str (Str.ofString "ab")) 0 ⟨183, 52, 183, 56⟩) (.cons (.dis .nil ⟨183, 58, 183, 60⟩) (.cons (.dis (.cons (.con (.int (1)) 0 ⟨183, 63, 183, 64⟩) (.con (.int (2)) 0 ⟨183, 66, 183, 67⟩) .nil) ⟨183, 62, 183, 68⟩) (.cons (.con (.bool true) 0 ⟨183, 70, 183, 74⟩) (.cons (.bin .Add (.var 1 ⟨183, 76, 183, 92⟩) (.lst (.cons (.var 4 ⟨183, 96, 183, 109⟩) .nil) ⟨183, 95, 183, 110⟩) ⟨183, 76, 183, 110⟩) (.cons (.bi .tuple ⟨183, 112, 183, 117⟩ (.cons (.bin .Add (.lst (.cons (.var 4 ⟨183, 119, 183, 132⟩) .nil) ⟨183, 118, 183, 133⟩) (.var 1 ⟨183, 136, 183, 152⟩) ⟨183, 118, 183, 152⟩) .nil) ⟨183, 112, 183, 153⟩) (.cons (.lst (.cons (.var 4 ⟨183, 156, 183, 169⟩) (.cons (.var 3 ⟨183, 171, 183, 180⟩) .nil)) ⟨183, 155, 183, 181⟩) .nil))))))))) ⟨183, 42, 183, 182⟩) .nil)) ⟨183, 17, 183, 183⟩) ⟨183, 4, 183, 183⟩) (.cons (.ret (.cmp .Eq (.told 25 ⟨184, 11, 184, 20⟩ (.call 15 ⟨184, 29, 184, 38⟩ (.cons (.var 7 ⟨184, 39, 184, 49⟩) .nil) ⟨184, 29, 184, 50⟩) { posonlyargs := [], args := [], vararg := none, kwonlyargs := [], kw_defaults := [], kwarg := none, defaults := [] } { kind := .function, names := [((Str.ofString "_law_wrong"), .free), ((Str.ofString "levels_of"), .globalImplicit)], isGenerator := false, isCoroutine := false, more := [] } ⟨184, 21, 184, 50⟩ ⟨184, 11, 184, 51⟩) (.bi .repr ⟨184, 55, 184, 59⟩ (.cons (.lst (.cons (.con (.str (Str.ofString "values")) 0 ⟨184, 61, 184, 69⟩) (.cons (.var 7 ⟨184, 71, 184, 81⟩) (.cons (.con (.bool true) 0 ⟨184, 83, 184, 87⟩) .nil))) ⟨184, 60, 184, 88⟩) .nil) ⟨184, 55, 184, 89⟩) ⟨184, 11, 184, 89⟩) ⟨184, 4, 184, 89⟩) .nil)))))))))))))
/-! _law_right : top 42 -/
def n42 : List Str := [(Str.ofString "_law_pot_here"), (Str.ofString "_law_things_here"), (Str.ofString "_law_one")]
def b42 : Ss := (.cons (.asg 1 ⟨186, 4, 186, 20⟩ (.call 22 ⟨186, 23, 186, 34⟩ (.cons (.var 0 ⟨186, 35, 186, 48⟩) (.cons (.call 17 ⟨186, 50, 186, 59⟩ (.cons (.var 0 ⟨186, 60, 186, 73⟩) (.cons (.con (.int (9)) 0 ⟨186, 75, 186, 76⟩) .nil)) ⟨186, 50, 186, 77⟩) .nil)) ⟨186, 23, 186, 78⟩) ⟨186, 4, 186, 78⟩) (.cons (.iff (.bop .Or (.cons (.nt (.bi .all ⟨187, 11, 187, 14⟩ (.cons (.lc (.cmp .Is (.call 3 ⟨187, 16, 187, 24⟩ (.cons (.var 2 ⟨187, 25, 187, 33⟩) .nil) ⟨187, 16, 187, 34⟩) (.con (.bool true) 0 ⟨187, 38, 187, 42⟩) ⟨187, 16, 187, 42⟩) 2 ⟨187, 47, 187, 55⟩ (.seq (.var 1 ⟨187, 59, 187, 75⟩)) .nil { kind := .function, names := [((Str.ofString ".0"), .local), ((Str.ofString "_law_one"), .local), ((Str.ofString "is_value"), .globalImplicit)], isGenerator := false, isCoroutine := false, more := [] } ⟨187, 15, 187, 76⟩) .nil) ⟨187, 11, 187, 77⟩) ⟨187, 7, 187, 77⟩) (.cons (.nt (.call 26 ⟨187, 85, 187, 101⟩ (.cons (.var 1 ⟨187, 102, 187, 118⟩) .nil) ⟨187, 85, 187, 119⟩) ⟨187, 81, 187, 119⟩) .nil)) ⟨187, 7, 187, 119⟩) (.cons (.ret (.con (.bool false) 0 ⟨188, 15, 188, 20⟩) ⟨188, 8, 188, 20⟩) .nil) .nil ⟨187, 4, 188, 20⟩) (.cons (.iff (.bop .Or (.cons (.nt (.call 27 ⟨189, 11, 189, 28⟩ (.cons (.var 0 ⟨189, 29, 189, 42⟩) (.cons (.var 1 ⟨189, 44, 189, 60⟩) .nil)) ⟨189, 11, 189, 61⟩) ⟨189, 7, 189, 61⟩) (.cons (.nt (.call 28 ⟨189, 69, 189, 88⟩ (.cons (.sli (.var 1 ⟨189, 89, 189, 105⟩) none (some (.call 17 ⟨189, 107, 189, 116⟩ (.cons (.var 0 ⟨189, 117, 189, 130⟩) (.cons (.con (.int (5)) 0 ⟨189, 132, 189, 133⟩) .nil)) ⟨189, 107, 189, 134⟩)) ⟨189, 106, 189, 134⟩ ⟨189, 89, 189, 135⟩) .nil) ⟨189, 69, 189, 136⟩) ⟨189, 65, 189, 136⟩) .nil)) ⟨189, 7, 189, 136⟩) (.cons (.ret (.con (.bool false) 0 ⟨190, 15, 190, 20⟩) ⟨190, 8, 190, 20⟩) .nil) .nil ⟨189, 4, 190, 20⟩) (.cons (.ret (.bop .And (.cons (.call 29 ⟨191, 11, 191, 27⟩ (.cons (.var 0 ⟨191, 28, 191, 41⟩) .nil) ⟨191, 11, 191, 42⟩) (.cons (.call 30 ⟨191, 47, 191, 65⟩ (.cons (.var 0 ⟨191, 66, 191, 79⟩) (.cons (.var 1 ⟨191, 81, 191, 97⟩) .nil)) ⟨191, 47, 191, 98⟩) .nil)) ⟨191, 11, 191, 98⟩) ⟨191, 4, 191, 98⟩) .nil))))
/-! law : top 43 -/
def n43 : List Str := [(Str.ofString "_law_script"), (Str.ofString "_law_k")]
def b43 : Ss := (.cons (.iff (.cmp .NotEq (.lst (.cons (.glo 0 ⟨193, 8, 193, 14⟩) (.cons (.glo 1 ⟨193, 16, 193, 19⟩) (.cons (.glo 3 ⟨193, 21, 193, 29⟩) .nil))) ⟨193, 7, 193, 30⟩) (.lst (.cons (.con (.str (Str.ofString "bottom")) 0 ⟨193, 35, 193, 43⟩) (.cons (.con (.str (Str.ofString "top")) 0 ⟨193, 45, 193, 50⟩) (.cons (.con (.str (Str.ofString "no bound")) 0 ⟨193, 52, 193, 62⟩) .nil))) ⟨193, 34, 193, 63⟩) ⟨193, 7, 193, 63⟩) (.cons (.ret (.con (.bool false) 0 ⟨194, 15, 194, 20⟩) ⟨194, 8, 194, 20⟩) .nil) .nil ⟨193, 4, 194, 20⟩) (.cons (.ret (.bi .all ⟨195, 11, 195, 14⟩ (.cons (.lc (.call 31 ⟨195, 16, 195, 26⟩ (.cons (.call 16 ⟨195, 27, 195, 35⟩ (.cons (.var 0 ⟨195, 36, 195, 47⟩) (.cons (.var 1 ⟨195, 49, 195, 55⟩) .nil)) ⟨195, 27, 195, 56⟩) .nil) ⟨195, 16, 195, 57⟩) 1 ⟨195, 62, 195, 68⟩ (.rng1 ⟨195, 72, 195, 77⟩ (.bi .max ⟨195, 78, 195, 81⟩ (.cons (.con (.int (1)) 0 ⟨195, 82, 195, 83⟩) (.cons (.bi .min ⟨195, 85, 195, 88⟩ (.cons (.bi .len ⟨195, 89, 195, 92⟩ (.cons (.var 0 ⟨195, 93, 195, 104⟩) .nil) ⟨195, 89, 195, 105⟩) (.cons (.con (.int (5)) 0 ⟨195, 107, 195, 108⟩) .nil)) ⟨195, 85, 195, 109⟩) .nil)) ⟨195, 78, 195, 110⟩) ⟨195, 72, 195, 111⟩) .nil { kind := .function, names := [((Str.ofString ".0"), .local), ((Str.ofString "_law_k"), .local), ((Str.ofString "_law_right"), .globalImplicit), ((Str.ofString "_law_pot"), .globalImplicit), ((Str.ofString "_law_script"), .free)], isGenerator := false, isCoroutine := false, more := [] } ⟨195, 15, 195, 112⟩) .nil) ⟨195, 11, 195, 113⟩) ⟨195, 4, 195, 113⟩) .nil))
def fns : List (Option Fn) := [some ⟨1, 1, false, b10⟩, some ⟨1, 1, false, b11⟩, some ⟨1, 1, false, b12⟩, some ⟨1, 1, false, b13⟩, some ⟨1, 1, false, b14⟩, some ⟨1, 1, false, b15⟩, some ⟨2, 2, false, b16⟩, some ⟨1, 3, false, b17⟩, some ⟨1, 3, false, b18⟩, some ⟨2, 2, false, b19⟩, some ⟨1, 2, false, b20⟩, some ⟨2, 2, false, b21⟩, some ⟨1, 2, true, b22⟩, some ⟨1, 2, true, b23⟩, some ⟨2, 2, false, b24⟩, some ⟨1, 2, false, b25⟩, some ⟨2, 3, false, b27⟩, some ⟨2, 3, false, b28⟩, some ⟨2, 2, false, b29⟩, some ⟨1, 1, false, b30⟩, some ⟨1, 1, false, b31⟩, some ⟨2, 5, false, b32⟩, some ⟨2, 5, false, b33⟩, some ⟨1, 1, false, b34⟩, some ⟨2, 2, false, b35⟩, none, some ⟨1, 8, false, b37⟩, some ⟨2, 8, false, b38⟩, some ⟨1, 4, false, b39⟩, some ⟨1, 5, false, b40⟩, some ⟨2, 8, false, b41⟩, some ⟨1, 3, false, b42⟩, some ⟨1, 2, false, b43⟩]
end K11

-- P11a
set_option Elab.async false
set_option linter.all false
set_option maxRecDepth 100000
set_option maxHeartbeats 4000000
set_option autoImplicit false
namespace K11
open PySem Mn
def tags : List (Nat × Str) := [(0, "value"), (1, "values"), (2, "integer")]
def gd : List D := [.str "bottom", .str "top", .tup [.str "bottom", .str "top"], .str "no bound"]
def tf : EO → Option EO := tell (fun c => tags.lookup c)
def rn : Nat → Nat → List Sl → Option CO := run fns tf gd
abbrev ev (k np ns : Nat) (b : Ss) (as : List Sl) : Option SO := evSs (rn k) tf gd (np, ns) b as
theorem fn0 (k : Nat) (a : Sl) : rn (k+1) 0 [a] = endF [a] (ev k 1 1 b10 [a]) := rfl
theorem fn1 (k : Nat) (a : Sl) : rn (k+1) 1 [a] = endF [a] (ev k 1 1 b11 [a]) := rfl
theorem fn2 (k : Nat) (a : Sl) : rn (k+1) 2 [a] = endF [a] (ev k 1 1 b12 [a]) := rfl
theorem fn3 (k : Nat) (a : Sl) : rn (k+1) 3 [a] = endF [a] (ev k 1 1 b13 [a]) := rfl
theorem fn4 (k : Nat) (a : Sl) : rn (k+1) 4 [a] = endF [a] (ev k 1 1 b14 [a]) := rfl
theorem fn5 (k : Nat) (a : Sl) : rn (k+1) 5 [a] = endF [a] (ev k 1 1 b15 [a]) := rfl
theorem fn6 (k : Nat) (a b : Sl) : rn (k+1) 6 [a, b] = endF [a, b] (ev k 2 2 b16 [a, b]) := rfl
theorem fn7 (k : Nat) (a : Sl) : rn (k+1) 7 [a] = endF [a] (ev k 1 3 b17 [a, .un, .un]) := rfl
theorem fn8 (k : Nat) (a : Sl) : rn (k+1) 8 [a] = endF [a] (ev k 1 3 b18 [a, .un, .un]) := rfl
theorem fn9 (k : Nat) (a b : Sl) : rn (k+1) 9 [a, b] = endF [a, b] (ev k 2 2 b19 [a, b]) := rfl
theorem fn10 (k : Nat) (a : Sl) : rn (k+1) 10 [a] = endF [a] (ev k 1 2 b20 [a, .un]) := rfl
theorem fn11 (k : Nat) (a b : Sl) : rn (k+1) 11 [a, b] = endF [a, b] (ev k 2 2 b21 [a, b]) := rfl
theorem fn14 (k : Nat) (a b : Sl) : rn (k+1) 14 [a, b] = endF [a, b] (ev k 2 2 b24 [a, b]) := rfl
theorem fn15 (k : Nat) (a : Sl) : rn (k+1) 15 [a] = endF [a] (ev k 1 2 b25 [a, .un]) := rfl
theorem fn16 (k : Nat) (a b : Sl) : rn (k+1) 16 [a, b] = endF [a, b] (ev k 2 3 b27 [a, b, .un]) := rfl
theorem fn17 (k : Nat) (a b : Sl) : rn (k+1) 17 [a, b] = endF [a, b] (ev k 2 3 b28 [a, b, .un]) := rfl
theorem fn18 (k : Nat) (a b : Sl) : rn (k+1) 18 [a, b] = endF [a, b] (ev k 2 2 b29 [a, b]) := rfl
theorem fn19 (k : Nat) (a : Sl) : rn (k+1) 19 [a] = endF [a] (ev k 1 1 b30 [a]) := rfl
theorem fn20 (k : Nat) (a : Sl) : rn (k+1) 20 [a] = endF [a] (ev k 1 1 b31 [a]) := rfl
theorem fn21 (k : Nat) (a b : Sl) : rn (k+1) 21 [a, b] = endF [a, b] (ev k 2 5 b32 [a, b, .un, .un, .un]) := rfl
theorem fn22 (k : Nat) (a b : Sl) : rn (k+1) 22 [a, b] = endF [a, b] (ev k 2 5 b33 [a, b, .un, .un, .un]) := rfl
theorem fn23 (k : Nat) (a : Sl) : rn (k+1) 23 [a] = endF [a] (ev k 1 1 b34 [a]) := rfl
theorem fn24 (k : Nat) (a b : Sl) : rn (k+1) 24 [a, b] = endF [a, b] (ev k 2 2 b35 [a, b]) := rfl
theorem fn26 (k : Nat) (a : Sl) : rn (k+1) 26 [a] = endF [a] (ev k 1 8 b37 [a, .un, .un, .un, .un, .un, .un, .un]) := rfl
theorem fn27 (k : Nat) (a b : Sl) : rn (k+1) 27 [a, b] = endF [a, b] (ev k 2 8 b38 [a, b, .un, .un, .un, .un, .un, .un]) := rfl
theorem fn28 (k : Nat) (a : Sl) : rn (k+1) 28 [a] = endF [a] (ev k 1 4 b39 [a, .un, .un, .un]) := rfl
theorem fn29 (k : Nat) (a : Sl) : rn (k+1) 29 [a] = endF [a] (ev k 1 5 b40 [a, .un, .un, .un, .un]) := rfl
theorem fn30 (k : Nat) (a b : Sl) : rn (k+1) 30 [a, b] = endF [a, b] (ev k 2 8 b41 [a, b, .un, .un, .un, .un, .un, .un]) := rfl
theorem fn31 (k : Nat) (a : Sl) : rn (k+1) 31 [a] = endF [a] (ev k 1 3 b42 [a, .un, .un]) := rfl
theorem fn32 (k : Nat) (a : Sl) : rn (k+1) 32 [a] = endF [a] (ev k 1 2 b43 [a, .un]) := rfl
abbrev sB : D := .str "bottom"
abbrev sT : D := .str "top"
/-- things -/
inductive Th : D → Prop
  | bot : Th sB
  | top : Th sT
  | int (i : Int) : -(10 ^ 62) < i → i < 10 ^ 62 → Th (.int i)
def num : D → Int
  | .int i => i
  | .str x => if x = "bottom" then -(10 ^ 64) else 10 ^ 64
  | _ => 0
theorem num_b : num sB = -(10 ^ 64) := by decide +kernel
theorem num_t : num sT = 10 ^ 64 := by decide +kernel
theorem isi_ii (i : Int) : isiD (.int i) "int" = some true := by
  show L2.kitB "int" "int" = _
  decide +kernel
theorem isi_ib (i : Int) : isiD (.int i) "bool" = some false := by
  show L2.kitB "int" "bool" = _
  decide +kernel
theorem isi_is (i : Int) : isiD (.int i) "str" = some false := by
  show L2.kitB "int" "str" = _
  decide +kernel
theorem isi_si (x : Str) : isiD (.str x) "int" = some false := by
  show L2.kitB "str" "int" = _
  decide +kernel
theorem isi_ss (x : Str) : isiD (.str x) "str" = some true := by
  show L2.kitB "str" "str" = _
  decide +kernel
theorem is_int_i (k : Nat) (i : Int) : rn (k+1) 0 [.val (.int i)] = some (.ret (.val (.bl true)) [.val (.int i)]) := by
  simp [evSs, evS, evE, evEs, evB, evC, evO, evP, evI, callD, argSl, argSls, bors, wb, frz, frzs, sees, R.see, lockS, unlockS, asgS, asgR, retR, setD, asgT, unlockO, backA, endF, nIf, nIfs, isAnd, truD, RD.r, binD, cmpD, biD, ixD, Mn.Loc, keyD, meD, recv, gtD, apD, fn0, b10, isi_ii, isi_ib]
theorem is_int_s (k : Nat) (x : Str) : rn (k+1) 0 [.val (.str x)] = some (.ret (.val (.bl false)) [.val (.str x)]) := by
  simp [evSs, evS, evE, evEs, evB, evC, evO, evP, evI, callD, argSl, argSls, bors, wb, frz, frzs, sees, R.see, lockS, unlockS, asgS, asgR, retR, setD, asgT, unlockO, backA, endF, nIf, nIfs, isAnd, truD, RD.r, binD, cmpD, biD, ixD, Mn.Loc, keyD, meD, recv, gtD, apD, fn0, b10, isi_si]
end K11

-- P11b
set_option Elab.async false
set_option linter.all false
set_option maxRecDepth 100000
set_option maxHeartbeats 4000000
set_option autoImplicit false
namespace K11
open PySem Mn
section
variable (cf : Nat → List Sl → Option CO) (tf : EO → Option EO) (gd : List D)
def lpS (np : Nat × Nat) (b : Ss) : List Sl → Option SO := fun δ => evSs cf tf gd np b δ
def lpE (e : E) : List Sl → Option EO := fun δ => evE cf tf gd e δ
def lpC (e : Es) : List Sl → Option (Bool × List Sl) := fun δ => evC cf tf gd e δ
theorem evS_fr (np : Nat × Nat) (x : Nat) (p : Pos) (it : It) (b : Ss) (q : Pos) (δ : List Sl) : evS cf tf gd np (.fr x p it b q) δ = match evI cf tf gd it δ with
    | some (xs, δ1, lk) => match frL np (lpS cf tf gd np b) x xs δ1 with
      | some o => some (unlockO lk o)
      | none => none
    | none => none := by rw [evS]; rfl
theorem evE_lc (elt : E) (x : Nat) (p : Pos) (it : It) (c : Es) (sc : Scope) (q : Pos) (δ : List Sl) : evE cf tf gd (.lc elt x p it c sc q) δ = match evI cf tf gd it δ with
    | some (xs, δ1, lk) => match lcL (lpE cf tf gd elt) (lpC cf tf gd c) x xs (δ1.set x .un) [] with
      | some (ys, δ2) => match δ1[x]? with
        | some (.lock _) => none
        | some s => some (.ok (.new ys) (unlockS (δ2.set x s) lk))
        | none => none
      | none => none
    | none => none := by rw [evE]; rfl
theorem evE_srt (p0 : Pos) (elt : E) (x : Nat) (p : Pos) (it : It) (c : Es) (sc : Scope) (q q2 : Pos) (δ : List Sl) : evE cf tf gd (.srt p0 elt x p it c sc q q2) δ = match evI cf tf gd it δ with
    | some (xs, δ1, lk) => match lcL (lpE cf tf gd elt) (lpC cf tf gd c) x xs (δ1.set x .un) [] with
      | some (ys, δ2) => match δ1[x]?, asInts ys with
        | some (.lock _), _ => none
        | some s, some ns => if ns.length < 64 then some (.ok (.new ((srtI ns).map D.int)) (unlockS (δ2.set x s) lk)) else none
        | _, _ => none
      | none => none
    | none => none := by rw [evE]; rfl
end
/-- a comprehension that touches nothing but its own slot -/
theorem lc_ok {fe : List Sl → Option EO} {fc : List Sl → Option (Bool × List Sl)} {x : Nat} {δ : List Sl} {p : D → Bool} {g : D → D} : ∀ (xs acc : List D) (s : Sl),
    (∀ d ∈ xs, fc (δ.set x (.val d)) = some (p d, δ.set x (.val d))) → (∀ d ∈ xs, p d = true → fe (δ.set x (.val d)) = some (.ok (.val (g d)) (δ.set x (.val d)))) → acc.length + xs.length ≤ 1000000 →
    lcL fe fc x xs (δ.set x s) acc = some (acc ++ (xs.filter p).map g, δ.set x (xs.foldl (fun _ d => .val d) s))
  | [], acc, s, _, _, _ => by simp [evSs, evS, evE, evEs, evB, evC, evO, evP, evI, callD, argSl, argSls, bors, wb, frz, frzs, sees, R.see, lockS, unlockS, asgS, asgR, retR, setD, asgT, unlockO, backA, endF, nIf, nIfs, isAnd, truD, RD.r, binD, cmpD, biD, ixD, Mn.Loc, keyD, meD, recv, gtD, apD, lcL]
  | d :: ds, acc, s, hc, he, hl => by
    have c1 := hc d (by simp [evSs, evS, evE, evEs, evB, evC, evO, evP, evI, callD, argSl, argSls, bors, wb, frz, frzs, sees, R.see, lockS, unlockS, asgS, asgR, retR, setD, asgT, unlockO, backA, endF, nIf, nIfs, isAnd, truD, RD.r, binD, cmpD, biD, ixD, Mn.Loc, keyD, meD, recv, gtD, apD])
    have e1 := he d (by simp [evSs, evS, evE, evEs, evB, evC, evO, evP, evI, callD, argSl, argSls, bors, wb, frz, frzs, sees, R.see, lockS, unlockS, asgS, asgR, retR, setD, asgT, unlockO, backA, endF, nIf, nIfs, isAnd, truD, RD.r, binD, cmpD, biD, ixD, Mn.Loc, keyD, meD, recv, gtD, apD])
    simp [evSs, evS, evE, evEs, evB, evC, evO, evP, evI, callD, argSl, argSls, bors, wb, frz, frzs, sees, R.see, lockS, unlockS, asgS, asgR, retR, setD, asgT, unlockO, backA, endF, nIf, nIfs, isAnd, truD, RD.r, binD, cmpD, biD, ixD, Mn.Loc, keyD, meD, recv, gtD, apD] at hl
    have ih := fun acc' (h : acc'.length + ds.length ≤ 1000000) => lc_ok ds acc' (.val d) (fun y hy => hc y (by simp [evSs, evS, evE, evEs, evB, evC, evO, evP, evI, callD, argSl, argSls, bors, wb, frz, frzs, sees, R.see, lockS, unlockS, asgS, asgR, retR, setD, asgT, unlockO, backA, endF, nIf, nIfs, isAnd, truD, RD.r, binD, cmpD, biD, ixD, Mn.Loc, keyD, meD, recv, gtD, apD, hy])) (fun y hy => he y (by simp [evSs, evS, evE, evEs, evB, evC, evO, evP, evI, callD, argSl, argSls, bors, wb, frz, frzs, sees, R.see, lockS, unlockS, asgS, asgR, retR, setD, asgT, unlockO, backA, endF, nIf, nIfs, isAnd, truD, RD.r, binD, cmpD, biD, ixD, Mn.Loc, keyD, meD, recv, gtD, apD, hy])) h
    by_cases q : p d = true
    · have l1 : acc.length < 1000000 := by omega
      have := ih (acc ++ [g d]) (by simp [evSs, evS, evE, evEs, evB, evC, evO, evP, evI, callD, argSl, argSls, bors, wb, frz, frzs, sees, R.see, lockS, unlockS, asgS, asgR, retR, setD, asgT, unlockO, backA, endF, nIf, nIfs, isAnd, truD, RD.r, binD, cmpD, biD, ixD, Mn.Loc, keyD, meD, recv, gtD, apD]; omega)
      simp [evSs, evS, evE, evEs, evB, evC, evO, evP, evI, callD, argSl, argSls, bors, wb, frz, frzs, sees, R.see, lockS, unlockS, asgS, asgR, retR, setD, asgT, unlockO, backA, endF, nIf, nIfs, isAnd, truD, RD.r, binD, cmpD, biD, ixD, Mn.Loc, keyD, meD, recv, gtD, apD, lcL, List.set_set, c1, q, e1 q, l1, this]
    · have q' : p d = false := by simpa using q
      have := ih acc (by omega)
      simp [evSs, evS, evE, evEs, evB, evC, evO, evP, evI, callD, argSl, argSls, bors, wb, frz, frzs, sees, R.see, lockS, unlockS, asgS, asgR, retR, setD, asgT, unlockO, backA, endF, nIf, nIfs, isAnd, truD, RD.r, binD, cmpD, biD, ixD, Mn.Loc, keyD, meD, recv, gtD, apD, lcL, List.set_set, c1, q', this]
/-- a loop: what holds of the slots -/
theorem fr_inv {np : Nat × Nat} {fb : List Sl → Option SO} {x : Nat} (I : List D → List Sl → Prop) : ∀ (xs ys : List D) (δ : List Sl),
    (∀ ys d δ, d ∈ xs → I ys δ → ∃ δ1 δ2, asgS np x (.val d) δ = some δ1 ∧ fb δ1 = some (.nx δ2) ∧ I (ys ++ [d]) δ2) → I ys δ → ∃ δ', frL np fb x xs δ = some (.nx δ') ∧ I (ys ++ xs) δ'
  | [], ys, δ, _, h => ⟨δ, rfl, by simpa using h⟩
  | d :: ds, ys, δ, st, h => by
    obtain ⟨δ1, δ2, e1, e2, h2⟩ := st ys d δ (by simp [evSs, evS, evE, evEs, evB, evC, evO, evP, evI, callD, argSl, argSls, bors, wb, frz, frzs, sees, R.see, lockS, unlockS, asgS, asgR, retR, setD, asgT, unlockO, backA, endF, nIf, nIfs, isAnd, truD, RD.r, binD, cmpD, biD, ixD, Mn.Loc, keyD, meD, recv, gtD, apD]) h
    obtain ⟨δ', e3, h3⟩ := fr_inv I ds (ys ++ [d]) δ2 (fun ys d δ hm => st ys d δ (by simp [evSs, evS, evE, evEs, evB, evC, evO, evP, evI, callD, argSl, argSls, bors, wb, frz, frzs, sees, R.see, lockS, unlockS, asgS, asgR, retR, setD, asgT, unlockO, backA, endF, nIf, nIfs, isAnd, truD, RD.r, binD, cmpD, biD, ixD, Mn.Loc, keyD, meD, recv, gtD, apD, hm])) h2
    exact ⟨δ', by rw [frL, e1]; simp only [e2]; exact e3, by simpa using h3⟩
theorem eq_ii (i j : Int) : eqD (.int i) (.int j) = some (decide (i = j)) := rfl
theorem sh_s {x : Str} (h : PyData.strOk x = true) : SeqAt.shaped (.str x) = true := by
  simp [evSs, evS, evE, evEs, evB, evC, evO, evP, evI, callD, argSl, argSls, bors, wb, frz, frzs, sees, R.see, lockS, unlockS, asgS, asgR, retR, setD, asgT, unlockO, backA, endF, nIf, nIfs, isAnd, truD, RD.r, binD, cmpD, biD, ixD, Mn.Loc, keyD, meD, recv, gtD, apD, SeqAt.shaped, PyData.canLay0, PyData.depth, h]
theorem sh_i (i : Int) : SeqAt.shaped (.int i) = true := rfl
theorem eq_ss {x y : Str} (h1 : PyData.strOk x = true) (h2 : PyData.strOk y = true) : eqD (.str x) (.str y) = some (x == y) := by
  simp [evSs, evS, evE, evEs, evB, evC, evO, evP, evI, callD, argSl, argSls, bors, wb, frz, frzs, sees, R.see, lockS, unlockS, asgS, asgR, retR, setD, asgT, unlockO, backA, endF, nIf, nIfs, isAnd, truD, RD.r, binD, cmpD, biD, ixD, Mn.Loc, keyD, meD, recv, gtD, apD, eqD, D.eqOk, D.py, sh_s h1, sh_s h2, PyData.eqv]
theorem eq_is (i : Int) {x : Str} (h1 : PyData.strOk x = true) : eqD (.int i) (.str x) = some false := by
  simp [evSs, evS, evE, evEs, evB, evC, evO, evP, evI, callD, argSl, argSls, bors, wb, frz, frzs, sees, R.see, lockS, unlockS, asgS, asgR, retR, setD, asgT, unlockO, backA, endF, nIf, nIfs, isAnd, truD, RD.r, binD, cmpD, biD, ixD, Mn.Loc, keyD, meD, recv, gtD, apD, eqD, D.eqOk, D.py, sh_s h1, sh_i, PyData.eqv]
theorem eq_si (i : Int) {x : Str} (h1 : PyData.strOk x = true) : eqD (.str x) (.int i) = some false := by
  simp [evSs, evS, evE, evEs, evB, evC, evO, evP, evI, callD, argSl, argSls, bors, wb, frz, frzs, sees, R.see, lockS, unlockS, asgS, asgR, retR, setD, asgT, unlockO, backA, endF, nIf, nIfs, isAnd, truD, RD.r, binD, cmpD, biD, ixD, Mn.Loc, keyD, meD, recv, gtD, apD, eqD, D.eqOk, D.py, sh_s h1, sh_i, PyData.eqv]
theorem ok_b : PyData.strOk "bottom" = true := by decide +kernel
theorem ok_t : PyData.strOk "top" = true := by decide +kernel
theorem bt : ((Str.ofString "bottom") == (Str.ofString "top")) = false := by decide +kernel
theorem tb : ((Str.ofString "top") == (Str.ofString "bottom")) = false := by decide +kernel
theorem bb : ((Str.ofString "bottom") == (Str.ofString "bottom")) = true := by decide +kernel
theorem tt : ((Str.ofString "top") == (Str.ofString "top")) = true := by decide +kernel
theorem in_b : inD sB [sB, sT] = some true := by decide +kernel
theorem in_t : inD sT [sB, sT] = some true := by decide +kernel
theorem in_i (i : Int) : inD (.int i) [sB, sT] = some false := rfl
theorem gd0 : gd[0]? = some sB := rfl
theorem gd1 : gd[1]? = some sT := rfl
theorem gd2 : gd[2]? = some (.tup [sB, sT]) := rfl
theorem gd3 : gd[3]? = some (.str "no bound") := rfl
theorem is_end_b (k : Nat) : rn (k+1) 1 [.val sB] = some (.ret (.val (.bl true)) [.val sB]) := by
  simp [evSs, evS, evE, evEs, evB, evC, evO, evP, evI, callD, argSl, argSls, bors, wb, frz, frzs, sees, R.see, lockS, unlockS, asgS, asgR, retR, setD, asgT, unlockO, backA, endF, nIf, nIfs, isAnd, truD, RD.r, binD, cmpD, biD, ixD, Mn.Loc, keyD, meD, recv, gtD, apD, eq_ss, eq_ii, eq_is, eq_si, ok_b, ok_t, bt, tb, in_b, in_t, in_i, gd0, gd1, gd2, gd3, fn1, b11, isi_ss]
theorem is_end_t (k : Nat) : rn (k+1) 1 [.val sT] = some (.ret (.val (.bl true)) [.val sT]) := by
  simp [evSs, evS, evE, evEs, evB, evC, evO, evP, evI, callD, argSl, argSls, bors, wb, frz, frzs, sees, R.see, lockS, unlockS, asgS, asgR, retR, setD, asgT, unlockO, backA, endF, nIf, nIfs, isAnd, truD, RD.r, binD, cmpD, biD, ixD, Mn.Loc, keyD, meD, recv, gtD, apD, eq_ss, eq_ii, eq_is, eq_si, ok_b, ok_t, bt, tb, in_b, in_t, in_i, gd0, gd1, gd2, gd3, fn1, b11, isi_ss]
theorem is_val (k : Nat) {d : D} (h : Th d) : rn (k+2) 3 [.val d] = some (.ret (.val (.bl true)) [.val d]) := by
  cases h <;> simp [evSs, evS, evE, evEs, evB, evC, evO, evP, evI, callD, argSl, argSls, bors, wb, frz, frzs, sees, R.see, lockS, unlockS, asgS, asgR, retR, setD, asgT, unlockO, backA, endF, nIf, nIfs, isAnd, truD, RD.r, binD, cmpD, biD, ixD, Mn.Loc, keyD, meD, recv, gtD, apD, eq_ss, eq_ii, eq_is, eq_si, ok_b, ok_t, bt, tb, in_b, in_t, in_i, gd0, gd1, gd2, gd3, fn3, b13, is_int_i, is_int_s, is_end_b, is_end_t]
theorem want (k : Nat) {d : D} (h : Th d) : rn (k+3) 4 [.val d] = some (.ret (.val .non) [.val d]) := by
  simp [evSs, evS, evE, evEs, evB, evC, evO, evP, evI, callD, argSl, argSls, bors, wb, frz, frzs, sees, R.see, lockS, unlockS, asgS, asgR, retR, setD, asgT, unlockO, backA, endF, nIf, nIfs, isAnd, truD, RD.r, binD, cmpD, biD, ixD, Mn.Loc, keyD, meD, recv, gtD, apD, eq_ss, eq_ii, eq_is, eq_si, ok_b, ok_t, bt, tb, in_b, in_t, in_i, gd0, gd1, gd2, gd3, fn4, b14, is_val k h]
theorem want_i (k : Nat) (i : Int) : rn (k+2) 5 [.val (.int i)] = some (.ret (.val .non) [.val (.int i)]) := by
  simp [evSs, evS, evE, evEs, evB, evC, evO, evP, evI, callD, argSl, argSls, bors, wb, frz, frzs, sees, R.see, lockS, unlockS, asgS, asgR, retR, setD, asgT, unlockO, backA, endF, nIf, nIfs, isAnd, truD, RD.r, binD, cmpD, biD, ixD, Mn.Loc, keyD, meD, recv, gtD, apD, eq_ss, eq_ii, eq_is, eq_si, ok_b, ok_t, bt, tb, in_b, in_t, in_i, gd0, gd1, gd2, gd3, fn5, b15, is_int_i]
theorem th_i {i : Int} (h1 : -(10 ^ 62) < i) (h2 : i < 10 ^ 62) : ¬ i ≤ -(10 ^ 64) ∧ -(10 ^ 64) ≤ i ∧ i ≤ 10 ^ 64 ∧ ¬ 10 ^ 64 ≤ i := by
  have e1 : (10 : Int) ^ 62 = 100000000000000000000000000000000000000000000000000000000000000 := by decide +kernel
  have e2 : (10 : Int) ^ 64 = 10000000000000000000000000000000000000000000000000000000000000000 := by decide +kernel
  rw [e1] at h1 h2
  rw [e2]
  omega
theorem notless (k : Nat) {x y : D} (hx : Th x) (hy : Th y) : rn (k+1) 6 [.val x, .val y] = some (.ret (.val (.bl (decide (num y ≤ num x)))) [.val x, .val y]) := by
  cases hx with
  | bot => cases hy with
    | bot => rw [decide_eq_true (Int.le_refl _)]; simp [evSs, evS, evE, evEs, evB, evC, evO, evP, evI, callD, argSl, argSls, bors, wb, frz, frzs, sees, R.see, lockS, unlockS, asgS, asgR, retR, setD, asgT, unlockO, backA, endF, nIf, nIfs, isAnd, truD, RD.r, binD, cmpD, biD, ixD, Mn.Loc, keyD, meD, recv, gtD, apD, eq_ss, eq_ii, eq_is, eq_si, ok_b, ok_t, bt, tb, in_b, in_t, in_i, gd0, gd1, gd2, gd3, fn6, b16]
    | top => rw [decide_eq_false (by rw [num_b, num_t]; decide)]; simp [evSs, evS, evE, evEs, evB, evC, evO, evP, evI, callD, argSl, argSls, bors, wb, frz, frzs, sees, R.see, lockS, unlockS, asgS, asgR, retR, setD, asgT, unlockO, backA, endF, nIf, nIfs, isAnd, truD, RD.r, binD, cmpD, biD, ixD, Mn.Loc, keyD, meD, recv, gtD, apD, eq_ss, eq_ii, eq_is, eq_si, ok_b, ok_t, bt, tb, in_b, in_t, in_i, gd0, gd1, gd2, gd3, fn6, b16]
    | int j h1 h2 =>
      rw [decide_eq_false (by rw [num_b]; exact (th_i h1 h2).1)]
      simp [evSs, evS, evE, evEs, evB, evC, evO, evP, evI, callD, argSl, argSls, bors, wb, frz, frzs, sees, R.see, lockS, unlockS, asgS, asgR, retR, setD, asgT, unlockO, backA, endF, nIf, nIfs, isAnd, truD, RD.r, binD, cmpD, biD, ixD, Mn.Loc, keyD, meD, recv, gtD, apD, eq_ss, eq_ii, eq_is, eq_si, ok_b, ok_t, bt, tb, in_b, in_t, in_i, gd0, gd1, gd2, gd3, fn6, b16]
  | top => cases hy with
    | bot => rw [decide_eq_true (by rw [num_b, num_t]; decide)]; simp [evSs, evS, evE, evEs, evB, evC, evO, evP, evI, callD, argSl, argSls, bors, wb, frz, frzs, sees, R.see, lockS, unlockS, asgS, asgR, retR, setD, asgT, unlockO, backA, endF, nIf, nIfs, isAnd, truD, RD.r, binD, cmpD, biD, ixD, Mn.Loc, keyD, meD, recv, gtD, apD, eq_ss, eq_ii, eq_is, eq_si, ok_b, ok_t, bt, tb, in_b, in_t, in_i, gd0, gd1, gd2, gd3, fn6, b16]
    | top => rw [decide_eq_true (Int.le_refl _)]; simp [evSs, evS, evE, evEs, evB, evC, evO, evP, evI, callD, argSl, argSls, bors, wb, frz, frzs, sees, R.see, lockS, unlockS, asgS, asgR, retR, setD, asgT, unlockO, backA, endF, nIf, nIfs, isAnd, truD, RD.r, binD, cmpD, biD, ixD, Mn.Loc, keyD, meD, recv, gtD, apD, eq_ss, eq_ii, eq_is, eq_si, ok_b, ok_t, bt, tb, in_b, in_t, in_i, gd0, gd1, gd2, gd3, fn6, b16]
    | int j h1 h2 =>
      rw [decide_eq_true (by rw [num_t]; exact (th_i h1 h2).2.2.1)]
      simp [evSs, evS, evE, evEs, evB, evC, evO, evP, evI, callD, argSl, argSls, bors, wb, frz, frzs, sees, R.see, lockS, unlockS, asgS, asgR, retR, setD, asgT, unlockO, backA, endF, nIf, nIfs, isAnd, truD, RD.r, binD, cmpD, biD, ixD, Mn.Loc, keyD, meD, recv, gtD, apD, eq_ss, eq_ii, eq_is, eq_si, ok_b, ok_t, bt, tb, in_b, in_t, in_i, gd0, gd1, gd2, gd3, fn6, b16]
  | int i g1 g2 => cases hy with
    | bot =>
      rw [decide_eq_true (by rw [num_b]; exact (th_i g1 g2).2.1)]
      simp [evSs, evS, evE, evEs, evB, evC, evO, evP, evI, callD, argSl, argSls, bors, wb, frz, frzs, sees, R.see, lockS, unlockS, asgS, asgR, retR, setD, asgT, unlockO, backA, endF, nIf, nIfs, isAnd, truD, RD.r, binD, cmpD, biD, ixD, Mn.Loc, keyD, meD, recv, gtD, apD, eq_ss, eq_ii, eq_is, eq_si, ok_b, ok_t, bt, tb, in_b, in_t, in_i, gd0, gd1, gd2, gd3, fn6, b16]
    | top =>
      rw [decide_eq_false (by rw [num_t]; exact (th_i g1 g2).2.2.2)]
      simp [evSs, evS, evE, evEs, evB, evC, evO, evP, evI, callD, argSl, argSls, bors, wb, frz, frzs, sees, R.see, lockS, unlockS, asgS, asgR, retR, setD, asgT, unlockO, backA, endF, nIf, nIfs, isAnd, truD, RD.r, binD, cmpD, biD, ixD, Mn.Loc, keyD, meD, recv, gtD, apD, eq_ss, eq_ii, eq_is, eq_si, ok_b, ok_t, bt, tb, in_b, in_t, in_i, gd0, gd1, gd2, gd3, fn6, b16]
    | int j h1 h2 =>
      simp only [num]
      simp [evSs, evS, evE, evEs, evB, evC, evO, evP, evI, callD, argSl, argSls, bors, wb, frz, frzs, sees, R.see, lockS, unlockS, asgS, asgR, retR, setD, asgT, unlockO, backA, endF, nIf, nIfs, isAnd, truD, RD.r, binD, cmpD, biD, ixD, Mn.Loc, keyD, meD, recv, gtD, apD, eq_ss, eq_ii, eq_is, eq_si, ok_b, ok_t, bt, tb, in_b, in_t, in_i, gd0, gd1, gd2, gd3, fn6, b16]
      exact decide_eq_decide.mpr Iff.rfl
def lo (f v : D) : D := if num v ≤ num f then v else f
def hi (f v : D) : D := if num f ≤ num v then v else f
theorem Th.lo {f v : D} (hf : Th f) (hv : Th v) : Th (lo f v) := by
  unfold K11.lo
  split <;> assumption
theorem Th.hi {f v : D} (hf : Th f) (hv : Th v) : Th (hi f v) := by
  unfold K11.hi
  split <;> assumption
theorem ex_loop {fb : List Sl → Option SO} {t : Sl} {g : D → D → D} (tg : ∀ {f d : D}, Th f → Th d → Th (g f d)) (hfb : ∀ f d, Th f → Th d → fb [t, .val f, .val d] = some (.nx [t, .val (g f d), .val d])) : ∀ (ds : List D) (f : D) (s : Sl), (∀ xs, s ≠ .lock xs) → Th f → (∀ d ∈ ds, Th d) →
    frL (1, 3) fb 2 ds [t, .val f, s] = some (.nx [t, .val (ds.foldl g f), ds.foldl (fun _ d => .val d) s])
  | [], f, s, _, _, _ => rfl
  | d :: ds, f, s, hs, hf, hd => by
    have h1 := hd d (by simp [evSs, evS, evE, evEs, evB, evC, evO, evP, evI, callD, argSl, argSls, bors, wb, frz, frzs, sees, R.see, lockS, unlockS, asgS, asgR, retR, setD, asgT, unlockO, backA, endF, nIf, nIfs, isAnd, truD, RD.r, binD, cmpD, biD, ixD, Mn.Loc, keyD, meD, recv, gtD, apD, eq_ss, eq_ii, eq_is, eq_si, ok_b, ok_t, bt, tb, in_b, in_t, in_i, gd0, gd1, gd2, gd3])
    have e := ex_loop tg hfb ds (g f d) (.val d) (by simp [evSs, evS, evE, evEs, evB, evC, evO, evP, evI, callD, argSl, argSls, bors, wb, frz, frzs, sees, R.see, lockS, unlockS, asgS, asgR, retR, setD, asgT, unlockO, backA, endF, nIf, nIfs, isAnd, truD, RD.r, binD, cmpD, biD, ixD, Mn.Loc, keyD, meD, recv, gtD, apD, eq_ss, eq_ii, eq_is, eq_si, ok_b, ok_t, bt, tb, in_b, in_t, in_i, gd0, gd1, gd2, gd3]) (tg hf h1) (fun x hx => hd x (by simp [evSs, evS, evE, evEs, evB, evC, evO, evP, evI, callD, argSl, argSls, bors, wb, frz, frzs, sees, R.see, lockS, unlockS, asgS, asgR, retR, setD, asgT, unlockO, backA, endF, nIf, nIfs, isAnd, truD, RD.r, binD, cmpD, biD, ixD, Mn.Loc, keyD, meD, recv, gtD, apD, eq_ss, eq_ii, eq_is, eq_si, ok_b, ok_t, bt, tb, in_b, in_t, in_i, gd0, gd1, gd2, gd3, hx]))
    rw [List.foldl_cons, List.foldl_cons, ← e]
    cases s <;> first | exact absurd rfl (hs _) | simp [evSs, evS, evE, evEs, evB, evC, evO, evP, evI, callD, argSl, argSls, bors, wb, frz, frzs, sees, R.see, lockS, unlockS, asgS, asgR, retR, setD, asgT, unlockO, backA, endF, nIf, nIfs, isAnd, truD, RD.r, binD, cmpD, biD, ixD, Mn.Loc, keyD, meD, recv, gtD, apD, eq_ss, eq_ii, eq_is, eq_si, ok_b, ok_t, bt, tb, in_b, in_t, in_i, gd0, gd1, gd2, gd3, frL, hfb f d hf h1]
theorem low (k : Nat) {ds : List D} (h : ∀ d ∈ ds, Th d) : rn (k+2) 7 [.val (.tup ds)] = some (.ret (.val (ds.foldl lo sT)) [.val (.tup ds)]) := by
  simp [evSs, evS, evE, evEs, evB, evC, evO, evP, evI, callD, argSl, argSls, bors, wb, frz, frzs, sees, R.see, lockS, unlockS, asgS, asgR, retR, setD, asgT, unlockO, backA, endF, nIf, nIfs, isAnd, truD, RD.r, binD, cmpD, biD, ixD, Mn.Loc, keyD, meD, recv, gtD, apD, eq_ss, eq_ii, eq_is, eq_si, ok_b, ok_t, bt, tb, in_b, in_t, in_i, gd0, gd1, gd2, gd3, fn7, b17]
  rw [ex_loop Th.lo (fun f d hf hd => ?_) _ _ _ (by simp [evSs, evS, evE, evEs, evB, evC, evO, evP, evI, callD, argSl, argSls, bors, wb, frz, frzs, sees, R.see, lockS, unlockS, asgS, asgR, retR, setD, asgT, unlockO, backA, endF, nIf, nIfs, isAnd, truD, RD.r, binD, cmpD, biD, ixD, Mn.Loc, keyD, meD, recv, gtD, apD, eq_ss, eq_ii, eq_is, eq_si, ok_b, ok_t, bt, tb, in_b, in_t, in_i, gd0, gd1, gd2, gd3]) .top h]
  · simp [evSs, evS, evE, evEs, evB, evC, evO, evP, evI, callD, argSl, argSls, bors, wb, frz, frzs, sees, R.see, lockS, unlockS, asgS, asgR, retR, setD, asgT, unlockO, backA, endF, nIf, nIfs, isAnd, truD, RD.r, binD, cmpD, biD, ixD, Mn.Loc, keyD, meD, recv, gtD, apD, eq_ss, eq_ii, eq_is, eq_si, ok_b, ok_t, bt, tb, in_b, in_t, in_i, gd0, gd1, gd2, gd3]
  · simp [evSs, evS, evE, evEs, evB, evC, evO, evP, evI, callD, argSl, argSls, bors, wb, frz, frzs, sees, R.see, lockS, unlockS, asgS, asgR, retR, setD, asgT, unlockO, backA, endF, nIf, nIfs, isAnd, truD, RD.r, binD, cmpD, biD, ixD, Mn.Loc, keyD, meD, recv, gtD, apD, eq_ss, eq_ii, eq_is, eq_si, ok_b, ok_t, bt, tb, in_b, in_t, in_i, gd0, gd1, gd2, gd3, lpS, notless k hf hd]
    by_cases q : num d ≤ num f <;> simp [evSs, evS, evE, evEs, evB, evC, evO, evP, evI, callD, argSl, argSls, bors, wb, frz, frzs, sees, R.see, lockS, unlockS, asgS, asgR, retR, setD, asgT, unlockO, backA, endF, nIf, nIfs, isAnd, truD, RD.r, binD, cmpD, biD, ixD, Mn.Loc, keyD, meD, recv, gtD, apD, eq_ss, eq_ii, eq_is, eq_si, ok_b, ok_t, bt, tb, in_b, in_t, in_i, gd0, gd1, gd2, gd3, q, lo]
theorem high (k : Nat) {ds : List D} (h : ∀ d ∈ ds, Th d) : rn (k+2) 8 [.val (.tup ds)] = some (.ret (.val (ds.foldl hi sB)) [.val (.tup ds)]) := by
  simp [evSs, evS, evE, evEs, evB, evC, evO, evP, evI, callD, argSl, argSls, bors, wb, frz, frzs, sees, R.see, lockS, unlockS, asgS, asgR, retR, setD, asgT, unlockO, backA, endF, nIf, nIfs, isAnd, truD, RD.r, binD, cmpD, biD, ixD, Mn.Loc, keyD, meD, recv, gtD, apD, eq_ss, eq_ii, eq_is, eq_si, ok_b, ok_t, bt, tb, in_b, in_t, in_i, gd0, gd1, gd2, gd3, fn8, b18]
  rw [ex_loop Th.hi (fun f d hf hd => ?_) _ _ _ (by simp [evSs, evS, evE, evEs, evB, evC, evO, evP, evI, callD, argSl, argSls, bors, wb, frz, frzs, sees, R.see, lockS, unlockS, asgS, asgR, retR, setD, asgT, unlockO, backA, endF, nIf, nIfs, isAnd, truD, RD.r, binD, cmpD, biD, ixD, Mn.Loc, keyD, meD, recv, gtD, apD, eq_ss, eq_ii, eq_is, eq_si, ok_b, ok_t, bt, tb, in_b, in_t, in_i, gd0, gd1, gd2, gd3]) .bot h]
  · simp [evSs, evS, evE, evEs, evB, evC, evO, evP, evI, callD, argSl, argSls, bors, wb, frz, frzs, sees, R.see, lockS, unlockS, asgS, asgR, retR, setD, asgT, unlockO, backA, endF, nIf, nIfs, isAnd, truD, RD.r, binD, cmpD, biD, ixD, Mn.Loc, keyD, meD, recv, gtD, apD, eq_ss, eq_ii, eq_is, eq_si, ok_b, ok_t, bt, tb, in_b, in_t, in_i, gd0, gd1, gd2, gd3]
  · simp [evSs, evS, evE, evEs, evB, evC, evO, evP, evI, callD, argSl, argSls, bors, wb, frz, frzs, sees, R.see, lockS, unlockS, asgS, asgR, retR, setD, asgT, unlockO, backA, endF, nIf, nIfs, isAnd, truD, RD.r, binD, cmpD, biD, ixD, Mn.Loc, keyD, meD, recv, gtD, apD, eq_ss, eq_ii, eq_is, eq_si, ok_b, ok_t, bt, tb, in_b, in_t, in_i, gd0, gd1, gd2, gd3, lpS, notless k hd hf]
    by_cases q : num f ≤ num d <;> simp [evSs, evS, evE, evEs, evB, evC, evO, evP, evI, callD, argSl, argSls, bors, wb, frz, frzs, sees, R.see, lockS, unlockS, asgS, asgR, retR, setD, asgT, unlockO, backA, endF, nIf, nIfs, isAnd, truD, RD.r, binD, cmpD, biD, ixD, Mn.Loc, keyD, meD, recv, gtD, apD, eq_ss, eq_ii, eq_is, eq_si, ok_b, ok_t, bt, tb, in_b, in_t, in_i, gd0, gd1, gd2, gd3, q, hi]
end K11

-- P11c
set_option Elab.async false
set_option linter.all false
set_option maxRecDepth 100000
set_option maxHeartbeats 4000000
set_option autoImplicit false
namespace K11
open PySem Mn
theorem is_NoneType_int  : isiD (.non) "int" = some false := by
  show L2.kitB "NoneType" "int" = _
  decide +kernel
theorem is_NoneType_bool  : isiD (.non) "bool" = some false := by
  show L2.kitB "NoneType" "bool" = _
  decide +kernel
theorem is_NoneType_str  : isiD (.non) "str" = some false := by
  show L2.kitB "NoneType" "str" = _
  decide +kernel
theorem is_NoneType_list  : isiD (.non) "list" = some false := by
  show L2.kitB "NoneType" "list" = _
  decide +kernel
theorem is_NoneType_tuple  : isiD (.non) "tuple" = some false := by
  show L2.kitB "NoneType" "tuple" = _
  decide +kernel
theorem is_bool_int (b : Bool) : isiD (.bl b) "int" = some true := by
  show L2.kitB "bool" "int" = _
  decide +kernel
theorem is_bool_bool (b : Bool) : isiD (.bl b) "bool" = some true := by
  show L2.kitB "bool" "bool" = _
  decide +kernel
theorem is_bool_str (b : Bool) : isiD (.bl b) "str" = some false := by
  show L2.kitB "bool" "str" = _
  decide +kernel
theorem is_bool_list (b : Bool) : isiD (.bl b) "list" = some false := by
  show L2.kitB "bool" "list" = _
  decide +kernel
theorem is_bool_tuple (b : Bool) : isiD (.bl b) "tuple" = some false := by
  show L2.kitB "bool" "tuple" = _
  decide +kernel
theorem is_int_int (i : Int) : isiD (.int i) "int" = some true := by
  show L2.kitB "int" "int" = _
  decide +kernel
theorem is_int_bool (i : Int) : isiD (.int i) "bool" = some false := by
  show L2.kitB "int" "bool" = _
  decide +kernel
theorem is_int_str (i : Int) : isiD (.int i) "str" = some false := by
  show L2.kitB "int" "str" = _
  decide +kernel
theorem is_int_list (i : Int) : isiD (.int i) "list" = some false := by
  show L2.kitB "int" "list" = _
  decide +kernel
theorem is_int_tuple (i : Int) : isiD (.int i) "tuple" = some false := by
  show L2.kitB "int" "tuple" = _
  decide +kernel
theorem is_str_int (x : Str) : isiD (.str x) "int" = some false := by
  show L2.kitB "str" "int" = _
  decide +kernel
theorem is_str_bool (x : Str) : isiD (.str x) "bool" = some false := by
  show L2.kitB "str" "bool" = _
  decide +kernel
theorem is_str_str (x : Str) : isiD (.str x) "str" = some true := by
  show L2.kitB "str" "str" = _
  decide +kernel
theorem is_str_list (x : Str) : isiD (.str x) "list" = some false := by
  show L2.kitB "str" "list" = _
  decide +kernel
theorem is_str_tuple (x : Str) : isiD (.str x) "tuple" = some false := by
  show L2.kitB "str" "tuple" = _
  decide +kernel
theorem is_list_int (xs : List D) : isiD (.lst xs) "int" = some false := by
  show L2.kitB "list" "int" = _
  decide +kernel
theorem is_list_bool (xs : List D) : isiD (.lst xs) "bool" = some false := by
  show L2.kitB "list" "bool" = _
  decide +kernel
theorem is_list_str (xs : List D) : isiD (.lst xs) "str" = some false := by
  show L2.kitB "list" "str" = _
  decide +kernel
theorem is_list_list (xs : List D) : isiD (.lst xs) "list" = some true := by
  show L2.kitB "list" "list" = _
  decide +kernel
theorem is_list_tuple (xs : List D) : isiD (.lst xs) "tuple" = some false := by
  show L2.kitB "list" "tuple" = _
  decide +kernel
theorem is_tuple_int (xs : List D) : isiD (.tup xs) "int" = some false := by
  show L2.kitB "tuple" "int" = _
  decide +kernel
theorem is_tuple_bool (xs : List D) : isiD (.tup xs) "bool" = some false := by
  show L2.kitB "tuple" "bool" = _
  decide +kernel
theorem is_tuple_str (xs : List D) : isiD (.tup xs) "str" = some false := by
  show L2.kitB "tuple" "str" = _
  decide +kernel
theorem is_tuple_list (xs : List D) : isiD (.tup xs) "list" = some false := by
  show L2.kitB "tuple" "list" = _
  decide +kernel
theorem is_tuple_tuple (xs : List D) : isiD (.tup xs) "tuple" = some true := by
  show L2.kitB "tuple" "tuple" = _
  decide +kernel
theorem is_dict_int (xs : List (L2.Key × D)) : isiD (.dct xs) "int" = some false := by
  show L2.kitB "dict" "int" = _
  decide +kernel
theorem is_dict_bool (xs : List (L2.Key × D)) : isiD (.dct xs) "bool" = some false := by
  show L2.kitB "dict" "bool" = _
  decide +kernel
theorem is_dict_str (xs : List (L2.Key × D)) : isiD (.dct xs) "str" = some false := by
  show L2.kitB "dict" "str" = _
  decide +kernel
theorem is_dict_list (xs : List (L2.Key × D)) : isiD (.dct xs) "list" = some false := by
  show L2.kitB "dict" "list" = _
  decide +kernel
theorem is_dict_tuple (xs : List (L2.Key × D)) : isiD (.dct xs) "tuple" = some false := by
  show L2.kitB "dict" "tuple" = _
  decide +kernel
def odds : List D := [.non, .bl true, .bl false, .str "", .str "Bottom", .str "TOP", .str "bottom ", .str "no bound", .str "1", .lst [.int 1], .tup [.int 1], .dct [], .lst [.str "top"]]
theorem odd_str : ∀ x : Str, D.str x ∈ odds → inD (.str x) [sB, sT] = some false := by
  intro x h
  simp [evSs, evS, evE, evEs, evB, evC, evO, evP, evI, callD, argSl, argSls, bors, wb, frz, frzs, sees, R.see, lockS, unlockS, asgS, asgR, retR, setD, asgT, unlockO, backA, endF, nIf, nIfs, isAnd, truD, RD.r, binD, cmpD, biD, ixD, Mn.Loc, keyD, meD, recv, gtD, apD, eq_ss, eq_ii, eq_is, eq_si, ok_b, ok_t, bt, tb, in_b, in_t, in_i, gd0, gd1, gd2, gd3, is_NoneType_int, is_NoneType_bool, is_NoneType_str, is_NoneType_list, is_NoneType_tuple, is_bool_int, is_bool_bool, is_bool_str, is_bool_list, is_bool_tuple, is_int_int, is_int_bool, is_int_str, is_int_list, is_int_tuple, is_str_int, is_str_bool, is_str_str, is_str_list, is_str_tuple, is_list_int, is_list_bool, is_list_str, is_list_list, is_list_tuple, is_tuple_int, is_tuple_bool, is_tuple_str, is_tuple_list, is_tuple_tuple, is_dict_int, is_dict_bool, is_dict_str, is_dict_list, is_dict_tuple, odds] at h
  rcases h with h | h | h | h | h | h <;> (subst h; decide +kernel)
theorem odd_cases {d : D} (h : d ∈ odds) : d = .non ∨ (∃ b, d = .bl b) ∨ (∃ x, d = .str x ∧ inD (.str x) [sB, sT] = some false) ∨ (∃ xs, d = .lst xs) ∨ (∃ xs, d = .tup xs) ∨ (∃ xs, d = .dct xs) := by
  have q := odd_str
  cases d with
  | str x => exact .inr (.inr (.inl ⟨x, rfl, q x h⟩))
  | _ => first | (simp [evSs, evS, evE, evEs, evB, evC, evO, evP, evI, callD, argSl, argSls, bors, wb, frz, frzs, sees, R.see, lockS, unlockS, asgS, asgR, retR, setD, asgT, unlockO, backA, endF, nIf, nIfs, isAnd, truD, RD.r, binD, cmpD, biD, ixD, Mn.Loc, keyD, meD, recv, gtD, apD, eq_ss, eq_ii, eq_is, eq_si, ok_b, ok_t, bt, tb, in_b, in_t, in_i, gd0, gd1, gd2, gd3, is_NoneType_int, is_NoneType_bool, is_NoneType_str, is_NoneType_list, is_NoneType_tuple, is_bool_int, is_bool_bool, is_bool_str, is_bool_list, is_bool_tuple, is_int_int, is_int_bool, is_int_str, is_int_list, is_int_tuple, is_str_int, is_str_bool, is_str_str, is_str_list, is_str_tuple, is_list_int, is_list_bool, is_list_str, is_list_list, is_list_tuple, is_tuple_int, is_tuple_bool, is_tuple_str, is_tuple_list, is_tuple_tuple, is_dict_int, is_dict_bool, is_dict_str, is_dict_list, is_dict_tuple]; done) | (simp [evSs, evS, evE, evEs, evB, evC, evO, evP, evI, callD, argSl, argSls, bors, wb, frz, frzs, sees, R.see, lockS, unlockS, asgS, asgR, retR, setD, asgT, unlockO, backA, endF, nIf, nIfs, isAnd, truD, RD.r, binD, cmpD, biD, ixD, Mn.Loc, keyD, meD, recv, gtD, apD, eq_ss, eq_ii, eq_is, eq_si, ok_b, ok_t, bt, tb, in_b, in_t, in_i, gd0, gd1, gd2, gd3, is_NoneType_int, is_NoneType_bool, is_NoneType_str, is_NoneType_list, is_NoneType_tuple, is_bool_int, is_bool_bool, is_bool_str, is_bool_list, is_bool_tuple, is_int_int, is_int_bool, is_int_str, is_int_list, is_int_tuple, is_str_int, is_str_bool, is_str_str, is_str_list, is_str_tuple, is_list_int, is_list_bool, is_list_str, is_list_list, is_list_tuple, is_tuple_int, is_tuple_bool, is_tuple_str, is_tuple_list, is_tuple_tuple, is_dict_int, is_dict_bool, is_dict_str, is_dict_list, is_dict_tuple, odds] at h; done)
theorem odd_val (k : Nat) {d : D} (h : d ∈ odds) : rn (k+2) 3 [.val d] = some (.ret (.val (.bl false)) [.val d]) := by
  rcases odd_cases h with rfl | ⟨b, rfl⟩ | ⟨x, rfl, hx⟩ | ⟨xs, rfl⟩ | ⟨xs, rfl⟩ | ⟨xs, rfl⟩
  · simp [evSs, evS, evE, evEs, evB, evC, evO, evP, evI, callD, argSl, argSls, bors, wb, frz, frzs, sees, R.see, lockS, unlockS, asgS, asgR, retR, setD, asgT, unlockO, backA, endF, nIf, nIfs, isAnd, truD, RD.r, binD, cmpD, biD, ixD, Mn.Loc, keyD, meD, recv, gtD, apD, eq_ss, eq_ii, eq_is, eq_si, ok_b, ok_t, bt, tb, in_b, in_t, in_i, gd0, gd1, gd2, gd3, is_NoneType_int, is_NoneType_bool, is_NoneType_str, is_NoneType_list, is_NoneType_tuple, is_bool_int, is_bool_bool, is_bool_str, is_bool_list, is_bool_tuple, is_int_int, is_int_bool, is_int_str, is_int_list, is_int_tuple, is_str_int, is_str_bool, is_str_str, is_str_list, is_str_tuple, is_list_int, is_list_bool, is_list_str, is_list_list, is_list_tuple, is_tuple_int, is_tuple_bool, is_tuple_str, is_tuple_list, is_tuple_tuple, is_dict_int, is_dict_bool, is_dict_str, is_dict_list, is_dict_tuple, fn3, fn0, fn1, b13, b10, b11]
  · simp [evSs, evS, evE, evEs, evB, evC, evO, evP, evI, callD, argSl, argSls, bors, wb, frz, frzs, sees, R.see, lockS, unlockS, asgS, asgR, retR, setD, asgT, unlockO, backA, endF, nIf, nIfs, isAnd, truD, RD.r, binD, cmpD, biD, ixD, Mn.Loc, keyD, meD, recv, gtD, apD, eq_ss, eq_ii, eq_is, eq_si, ok_b, ok_t, bt, tb, in_b, in_t, in_i, gd0, gd1, gd2, gd3, is_NoneType_int, is_NoneType_bool, is_NoneType_str, is_NoneType_list, is_NoneType_tuple, is_bool_int, is_bool_bool, is_bool_str, is_bool_list, is_bool_tuple, is_int_int, is_int_bool, is_int_str, is_int_list, is_int_tuple, is_str_int, is_str_bool, is_str_str, is_str_list, is_str_tuple, is_list_int, is_list_bool, is_list_str, is_list_list, is_list_tuple, is_tuple_int, is_tuple_bool, is_tuple_str, is_tuple_list, is_tuple_tuple, is_dict_int, is_dict_bool, is_dict_str, is_dict_list, is_dict_tuple, fn3, fn0, fn1, b13, b10, b11]
  · simp [evSs, evS, evE, evEs, evB, evC, evO, evP, evI, callD, argSl, argSls, bors, wb, frz, frzs, sees, R.see, lockS, unlockS, asgS, asgR, retR, setD, asgT, unlockO, backA, endF, nIf, nIfs, isAnd, truD, RD.r, binD, cmpD, biD, ixD, Mn.Loc, keyD, meD, recv, gtD, apD, eq_ss, eq_ii, eq_is, eq_si, ok_b, ok_t, bt, tb, in_b, in_t, in_i, gd0, gd1, gd2, gd3, is_NoneType_int, is_NoneType_bool, is_NoneType_str, is_NoneType_list, is_NoneType_tuple, is_bool_int, is_bool_bool, is_bool_str, is_bool_list, is_bool_tuple, is_int_int, is_int_bool, is_int_str, is_int_list, is_int_tuple, is_str_int, is_str_bool, is_str_str, is_str_list, is_str_tuple, is_list_int, is_list_bool, is_list_str, is_list_list, is_list_tuple, is_tuple_int, is_tuple_bool, is_tuple_str, is_tuple_list, is_tuple_tuple, is_dict_int, is_dict_bool, is_dict_str, is_dict_list, is_dict_tuple, fn3, fn0, fn1, b13, b10, b11, hx]
  · simp [evSs, evS, evE, evEs, evB, evC, evO, evP, evI, callD, argSl, argSls, bors, wb, frz, frzs, sees, R.see, lockS, unlockS, asgS, asgR, retR, setD, asgT, unlockO, backA, endF, nIf, nIfs, isAnd, truD, RD.r, binD, cmpD, biD, ixD, Mn.Loc, keyD, meD, recv, gtD, apD, eq_ss, eq_ii, eq_is, eq_si, ok_b, ok_t, bt, tb, in_b, in_t, in_i, gd0, gd1, gd2, gd3, is_NoneType_int, is_NoneType_bool, is_NoneType_str, is_NoneType_list, is_NoneType_tuple, is_bool_int, is_bool_bool, is_bool_str, is_bool_list, is_bool_tuple, is_int_int, is_int_bool, is_int_str, is_int_list, is_int_tuple, is_str_int, is_str_bool, is_str_str, is_str_list, is_str_tuple, is_list_int, is_list_bool, is_list_str, is_list_list, is_list_tuple, is_tuple_int, is_tuple_bool, is_tuple_str, is_tuple_list, is_tuple_tuple, is_dict_int, is_dict_bool, is_dict_str, is_dict_list, is_dict_tuple, fn3, fn0, fn1, b13, b10, b11]
  · simp [evSs, evS, evE, evEs, evB, evC, evO, evP, evI, callD, argSl, argSls, bors, wb, frz, frzs, sees, R.see, lockS, unlockS, asgS, asgR, retR, setD, asgT, unlockO, backA, endF, nIf, nIfs, isAnd, truD, RD.r, binD, cmpD, biD, ixD, Mn.Loc, keyD, meD, recv, gtD, apD, eq_ss, eq_ii, eq_is, eq_si, ok_b, ok_t, bt, tb, in_b, in_t, in_i, gd0, gd1, gd2, gd3, is_NoneType_int, is_NoneType_bool, is_NoneType_str, is_NoneType_list, is_NoneType_tuple, is_bool_int, is_bool_bool, is_bool_str, is_bool_list, is_bool_tuple, is_int_int, is_int_bool, is_int_str, is_int_list, is_int_tuple, is_str_int, is_str_bool, is_str_str, is_str_list, is_str_tuple, is_list_int, is_list_bool, is_list_str, is_list_list, is_list_tuple, is_tuple_int, is_tuple_bool, is_tuple_str, is_tuple_list, is_tuple_tuple, is_dict_int, is_dict_bool, is_dict_str, is_dict_list, is_dict_tuple, fn3, fn0, fn1, b13, b10, b11]
  · simp [evSs, evS, evE, evEs, evB, evC, evO, evP, evI, callD, argSl, argSls, bors, wb, frz, frzs, sees, R.see, lockS, unlockS, asgS, asgR, retR, setD, asgT, unlockO, backA, endF, nIf, nIfs, isAnd, truD, RD.r, binD, cmpD, biD, ixD, Mn.Loc, keyD, meD, recv, gtD, apD, eq_ss, eq_ii, eq_is, eq_si, ok_b, ok_t, bt, tb, in_b, in_t, in_i, gd0, gd1, gd2, gd3, is_NoneType_int, is_NoneType_bool, is_NoneType_str, is_NoneType_list, is_NoneType_tuple, is_bool_int, is_bool_bool, is_bool_str, is_bool_list, is_bool_tuple, is_int_int, is_int_bool, is_int_str, is_int_list, is_int_tuple, is_str_int, is_str_bool, is_str_str, is_str_list, is_str_tuple, is_list_int, is_list_bool, is_list_str, is_list_list, is_list_tuple, is_tuple_int, is_tuple_bool, is_tuple_str, is_tuple_list, is_tuple_tuple, is_dict_int, is_dict_bool, is_dict_str, is_dict_list, is_dict_tuple, fn3, fn0, fn1, b13, b10, b11]
theorem odd_want (k : Nat) {d : D} (h : d ∈ odds) : rn (k+3) 4 [.val d] = some (.exc 0 d [.val d]) := by
  simp [evSs, evS, evE, evEs, evB, evC, evO, evP, evI, callD, argSl, argSls, bors, wb, frz, frzs, sees, R.see, lockS, unlockS, asgS, asgR, retR, setD, asgT, unlockO, backA, endF, nIf, nIfs, isAnd, truD, RD.r, binD, cmpD, biD, ixD, Mn.Loc, keyD, meD, recv, gtD, apD, eq_ss, eq_ii, eq_is, eq_si, ok_b, ok_t, bt, tb, in_b, in_t, in_i, gd0, gd1, gd2, gd3, is_NoneType_int, is_NoneType_bool, is_NoneType_str, is_NoneType_list, is_NoneType_tuple, is_bool_int, is_bool_bool, is_bool_str, is_bool_list, is_bool_tuple, is_int_int, is_int_bool, is_int_str, is_int_list, is_int_tuple, is_str_int, is_str_bool, is_str_str, is_str_list, is_str_tuple, is_list_int, is_list_bool, is_list_str, is_list_list, is_list_tuple, is_tuple_int, is_tuple_bool, is_tuple_str, is_tuple_list, is_tuple_tuple, is_dict_int, is_dict_bool, is_dict_str, is_dict_list, is_dict_tuple, fn4, b14, odd_val k h]
/-! star -/
theorem vals_map : ∀ ds : List D, vals (ds.map .val) = some ds
  | [] => rfl
  | d :: ds => by simp [evSs, evS, evE, evEs, evB, evC, evO, evP, evI, callD, argSl, argSls, bors, wb, frz, frzs, sees, R.see, lockS, unlockS, asgS, asgR, retR, setD, asgT, unlockO, backA, endF, nIf, nIfs, isAnd, truD, RD.r, binD, cmpD, biD, ixD, Mn.Loc, keyD, meD, recv, gtD, apD, eq_ss, eq_ii, eq_is, eq_si, ok_b, ok_t, bt, tb, in_b, in_t, in_i, gd0, gd1, gd2, gd3, is_NoneType_int, is_NoneType_bool, is_NoneType_str, is_NoneType_list, is_NoneType_tuple, is_bool_int, is_bool_bool, is_bool_str, is_bool_list, is_bool_tuple, is_int_int, is_int_bool, is_int_str, is_int_list, is_int_tuple, is_str_int, is_str_bool, is_str_str, is_str_list, is_str_tuple, is_list_int, is_list_bool, is_list_str, is_list_list, is_list_tuple, is_tuple_int, is_tuple_bool, is_tuple_str, is_tuple_list, is_tuple_tuple, is_dict_int, is_dict_bool, is_dict_str, is_dict_list, is_dict_tuple, vals, vals_map ds]
theorem fn12 (k : Nat) (ds : List D) (h : ds.length ≤ big) : rn (k+1) 12 (ds.map .val) = match evSs (rn k) tf gd (1, 2) b22 [.val (.tup ds), .un] with
    | some (.nx _) => some (.ret (.val .non) (ds.map .val))
    | some (.rt r _) => some (.ret r (ds.map .val))
    | some (.ex c d _) => some (.exc c d (ds.map .val))
    | none => none := by
  show run fns tf gd (k+1) 12 _ = _
  rw [Mn.run, show fns[12]? = some (some ⟨1, 2, true, b22⟩) from rfl]
  simp only [vals_map, if_pos h, if_true]
  rfl
theorem fn13 (k : Nat) (ds : List D) (h : ds.length ≤ big) : rn (k+1) 13 (ds.map .val) = match evSs (rn k) tf gd (1, 2) b23 [.val (.tup ds), .un] with
    | some (.nx _) => some (.ret (.val .non) (ds.map .val))
    | some (.rt r _) => some (.ret r (ds.map .val))
    | some (.ex c d _) => some (.exc c d (ds.map .val))
    | none => none := by
  show run fns tf gd (k+1) 13 _ = _
  rw [Mn.run, show fns[13]? = some (some ⟨1, 2, true, b23⟩) from rfl]
  simp only [vals_map, if_pos h, if_true]
  rfl
theorem want_loop {fb : List Sl → Option SO} {t : Sl} (hfb : ∀ d, Th d → fb [t, .val d] = some (.nx [t, .val d])) : ∀ (ds : List D) (s : Sl), (∀ xs, s ≠ .lock xs) → (∀ d ∈ ds, Th d) →
    frL (1, 2) fb 1 ds [t, s] = some (.nx [t, ds.foldl (fun _ d => .val d) s])
  | [], s, _, _ => rfl
  | d :: ds, s, hs, hd => by
    have h1 := hd d (by simp [evSs, evS, evE, evEs, evB, evC, evO, evP, evI, callD, argSl, argSls, bors, wb, frz, frzs, sees, R.see, lockS, unlockS, asgS, asgR, retR, setD, asgT, unlockO, backA, endF, nIf, nIfs, isAnd, truD, RD.r, binD, cmpD, biD, ixD, Mn.Loc, keyD, meD, recv, gtD, apD, eq_ss, eq_ii, eq_is, eq_si, ok_b, ok_t, bt, tb, in_b, in_t, in_i, gd0, gd1, gd2, gd3, is_NoneType_int, is_NoneType_bool, is_NoneType_str, is_NoneType_list, is_NoneType_tuple, is_bool_int, is_bool_bool, is_bool_str, is_bool_list, is_bool_tuple, is_int_int, is_int_bool, is_int_str, is_int_list, is_int_tuple, is_str_int, is_str_bool, is_str_str, is_str_list, is_str_tuple, is_list_int, is_list_bool, is_list_str, is_list_list, is_list_tuple, is_tuple_int, is_tuple_bool, is_tuple_str, is_tuple_list, is_tuple_tuple, is_dict_int, is_dict_bool, is_dict_str, is_dict_list, is_dict_tuple])
    have e := want_loop hfb ds (.val d) (by simp [evSs, evS, evE, evEs, evB, evC, evO, evP, evI, callD, argSl, argSls, bors, wb, frz, frzs, sees, R.see, lockS, unlockS, asgS, asgR, retR, setD, asgT, unlockO, backA, endF, nIf, nIfs, isAnd, truD, RD.r, binD, cmpD, biD, ixD, Mn.Loc, keyD, meD, recv, gtD, apD, eq_ss, eq_ii, eq_is, eq_si, ok_b, ok_t, bt, tb, in_b, in_t, in_i, gd0, gd1, gd2, gd3, is_NoneType_int, is_NoneType_bool, is_NoneType_str, is_NoneType_list, is_NoneType_tuple, is_bool_int, is_bool_bool, is_bool_str, is_bool_list, is_bool_tuple, is_int_int, is_int_bool, is_int_str, is_int_list, is_int_tuple, is_str_int, is_str_bool, is_str_str, is_str_list, is_str_tuple, is_list_int, is_list_bool, is_list_str, is_list_list, is_list_tuple, is_tuple_int, is_tuple_bool, is_tuple_str, is_tuple_list, is_tuple_tuple, is_dict_int, is_dict_bool, is_dict_str, is_dict_list, is_dict_tuple]) (fun x hx => hd x (by simp [evSs, evS, evE, evEs, evB, evC, evO, evP, evI, callD, argSl, argSls, bors, wb, frz, frzs, sees, R.see, lockS, unlockS, asgS, asgR, retR, setD, asgT, unlockO, backA, endF, nIf, nIfs, isAnd, truD, RD.r, binD, cmpD, biD, ixD, Mn.Loc, keyD, meD, recv, gtD, apD, eq_ss, eq_ii, eq_is, eq_si, ok_b, ok_t, bt, tb, in_b, in_t, in_i, gd0, gd1, gd2, gd3, is_NoneType_int, is_NoneType_bool, is_NoneType_str, is_NoneType_list, is_NoneType_tuple, is_bool_int, is_bool_bool, is_bool_str, is_bool_list, is_bool_tuple, is_int_int, is_int_bool, is_int_str, is_int_list, is_int_tuple, is_str_int, is_str_bool, is_str_str, is_str_list, is_str_tuple, is_list_int, is_list_bool, is_list_str, is_list_list, is_list_tuple, is_tuple_int, is_tuple_bool, is_tuple_str, is_tuple_list, is_tuple_tuple, is_dict_int, is_dict_bool, is_dict_str, is_dict_list, is_dict_tuple, hx]))
    rw [List.foldl_cons, ← e]
    cases s <;> first | exact absurd rfl (hs _) | simp [evSs, evS, evE, evEs, evB, evC, evO, evP, evI, callD, argSl, argSls, bors, wb, frz, frzs, sees, R.see, lockS, unlockS, asgS, asgR, retR, setD, asgT, unlockO, backA, endF, nIf, nIfs, isAnd, truD, RD.r, binD, cmpD, biD, ixD, Mn.Loc, keyD, meD, recv, gtD, apD, eq_ss, eq_ii, eq_is, eq_si, ok_b, ok_t, bt, tb, in_b, in_t, in_i, gd0, gd1, gd2, gd3, is_NoneType_int, is_NoneType_bool, is_NoneType_str, is_NoneType_list, is_NoneType_tuple, is_bool_int, is_bool_bool, is_bool_str, is_bool_list, is_bool_tuple, is_int_int, is_int_bool, is_int_str, is_int_list, is_int_tuple, is_str_int, is_str_bool, is_str_str, is_str_list, is_str_tuple, is_list_int, is_list_bool, is_list_str, is_list_list, is_list_tuple, is_tuple_int, is_tuple_bool, is_tuple_str, is_tuple_list, is_tuple_tuple, is_dict_int, is_dict_bool, is_dict_str, is_dict_list, is_dict_tuple, frL, hfb d h1]
theorem odd_loop {fb : List Sl → Option SO} {t : Sl} {o : D} {r : List D} (hfb : ∀ d, Th d → fb [t, .val d] = some (.nx [t, .val d])) (ho : fb [t, .val o] = some (.ex 0 o [t, .val o])) : ∀ (ds : List D) (s : Sl), (∀ xs, s ≠ .lock xs) → (∀ d ∈ ds, Th d) →
    frL (1, 2) fb 1 (ds ++ o :: r) [t, s] = some (.ex 0 o [t, .val o])
  | [], s, hs, _ => by
    cases s <;> first | exact absurd rfl (hs _) | simp [evSs, evS, evE, evEs, evB, evC, evO, evP, evI, callD, argSl, argSls, bors, wb, frz, frzs, sees, R.see, lockS, unlockS, asgS, asgR, retR, setD, asgT, unlockO, backA, endF, nIf, nIfs, isAnd, truD, RD.r, binD, cmpD, biD, ixD, Mn.Loc, keyD, meD, recv, gtD, apD, eq_ss, eq_ii, eq_is, eq_si, ok_b, ok_t, bt, tb, in_b, in_t, in_i, gd0, gd1, gd2, gd3, is_NoneType_int, is_NoneType_bool, is_NoneType_str, is_NoneType_list, is_NoneType_tuple, is_bool_int, is_bool_bool, is_bool_str, is_bool_list, is_bool_tuple, is_int_int, is_int_bool, is_int_str, is_int_list, is_int_tuple, is_str_int, is_str_bool, is_str_str, is_str_list, is_str_tuple, is_list_int, is_list_bool, is_list_str, is_list_list, is_list_tuple, is_tuple_int, is_tuple_bool, is_tuple_str, is_tuple_list, is_tuple_tuple, is_dict_int, is_dict_bool, is_dict_str, is_dict_list, is_dict_tuple, frL, ho]
  | d :: ds, s, hs, hd => by
    have h1 := hd d (by simp [evSs, evS, evE, evEs, evB, evC, evO, evP, evI, callD, argSl, argSls, bors, wb, frz, frzs, sees, R.see, lockS, unlockS, asgS, asgR, retR, setD, asgT, unlockO, backA, endF, nIf, nIfs, isAnd, truD, RD.r, binD, cmpD, biD, ixD, Mn.Loc, keyD, meD, recv, gtD, apD, eq_ss, eq_ii, eq_is, eq_si, ok_b, ok_t, bt, tb, in_b, in_t, in_i, gd0, gd1, gd2, gd3, is_NoneType_int, is_NoneType_bool, is_NoneType_str, is_NoneType_list, is_NoneType_tuple, is_bool_int, is_bool_bool, is_bool_str, is_bool_list, is_bool_tuple, is_int_int, is_int_bool, is_int_str, is_int_list, is_int_tuple, is_str_int, is_str_bool, is_str_str, is_str_list, is_str_tuple, is_list_int, is_list_bool, is_list_str, is_list_list, is_list_tuple, is_tuple_int, is_tuple_bool, is_tuple_str, is_tuple_list, is_tuple_tuple, is_dict_int, is_dict_bool, is_dict_str, is_dict_list, is_dict_tuple])
    have e := odd_loop (r := r) hfb ho ds (.val d) (by simp [evSs, evS, evE, evEs, evB, evC, evO, evP, evI, callD, argSl, argSls, bors, wb, frz, frzs, sees, R.see, lockS, unlockS, asgS, asgR, retR, setD, asgT, unlockO, backA, endF, nIf, nIfs, isAnd, truD, RD.r, binD, cmpD, biD, ixD, Mn.Loc, keyD, meD, recv, gtD, apD, eq_ss, eq_ii, eq_is, eq_si, ok_b, ok_t, bt, tb, in_b, in_t, in_i, gd0, gd1, gd2, gd3, is_NoneType_int, is_NoneType_bool, is_NoneType_str, is_NoneType_list, is_NoneType_tuple, is_bool_int, is_bool_bool, is_bool_str, is_bool_list, is_bool_tuple, is_int_int, is_int_bool, is_int_str, is_int_list, is_int_tuple, is_str_int, is_str_bool, is_str_str, is_str_list, is_str_tuple, is_list_int, is_list_bool, is_list_str, is_list_list, is_list_tuple, is_tuple_int, is_tuple_bool, is_tuple_str, is_tuple_list, is_tuple_tuple, is_dict_int, is_dict_bool, is_dict_str, is_dict_list, is_dict_tuple]) (fun x hx => hd x (by simp [evSs, evS, evE, evEs, evB, evC, evO, evP, evI, callD, argSl, argSls, bors, wb, frz, frzs, sees, R.see, lockS, unlockS, asgS, asgR, retR, setD, asgT, unlockO, backA, endF, nIf, nIfs, isAnd, truD, RD.r, binD, cmpD, biD, ixD, Mn.Loc, keyD, meD, recv, gtD, apD, eq_ss, eq_ii, eq_is, eq_si, ok_b, ok_t, bt, tb, in_b, in_t, in_i, gd0, gd1, gd2, gd3, is_NoneType_int, is_NoneType_bool, is_NoneType_str, is_NoneType_list, is_NoneType_tuple, is_bool_int, is_bool_bool, is_bool_str, is_bool_list, is_bool_tuple, is_int_int, is_int_bool, is_int_str, is_int_list, is_int_tuple, is_str_int, is_str_bool, is_str_str, is_str_list, is_str_tuple, is_list_int, is_list_bool, is_list_str, is_list_list, is_list_tuple, is_tuple_int, is_tuple_bool, is_tuple_str, is_tuple_list, is_tuple_tuple, is_dict_int, is_dict_bool, is_dict_str, is_dict_list, is_dict_tuple, hx]))
    rw [← e]
    cases s <;> first | exact absurd rfl (hs _) | simp [evSs, evS, evE, evEs, evB, evC, evO, evP, evI, callD, argSl, argSls, bors, wb, frz, frzs, sees, R.see, lockS, unlockS, asgS, asgR, retR, setD, asgT, unlockO, backA, endF, nIf, nIfs, isAnd, truD, RD.r, binD, cmpD, biD, ixD, Mn.Loc, keyD, meD, recv, gtD, apD, eq_ss, eq_ii, eq_is, eq_si, ok_b, ok_t, bt, tb, in_b, in_t, in_i, gd0, gd1, gd2, gd3, is_NoneType_int, is_NoneType_bool, is_NoneType_str, is_NoneType_list, is_NoneType_tuple, is_bool_int, is_bool_bool, is_bool_str, is_bool_list, is_bool_tuple, is_int_int, is_int_bool, is_int_str, is_int_list, is_int_tuple, is_str_int, is_str_bool, is_str_str, is_str_list, is_str_tuple, is_list_int, is_list_bool, is_list_str, is_list_list, is_list_tuple, is_tuple_int, is_tuple_bool, is_tuple_str, is_tuple_list, is_tuple_tuple, is_dict_int, is_dict_bool, is_dict_str, is_dict_list, is_dict_tuple, frL, hfb d h1]
theorem lesser (k : Nat) {ds : List D} (l : ds.length ≤ big) (h : ∀ d ∈ ds, Th d) : rn (k+4) 12 (ds.map .val) = some (.ret (.val (ds.foldl lo sT)) (ds.map .val)) := by
  simp [evSs, evS, evE, evEs, evB, evC, evO, evP, evI, callD, argSl, argSls, bors, wb, frz, frzs, sees, R.see, lockS, unlockS, asgS, asgR, retR, setD, asgT, unlockO, backA, endF, nIf, nIfs, isAnd, truD, RD.r, binD, cmpD, biD, ixD, Mn.Loc, keyD, meD, recv, gtD, apD, eq_ss, eq_ii, eq_is, eq_si, ok_b, ok_t, bt, tb, in_b, in_t, in_i, gd0, gd1, gd2, gd3, is_NoneType_int, is_NoneType_bool, is_NoneType_str, is_NoneType_list, is_NoneType_tuple, is_bool_int, is_bool_bool, is_bool_str, is_bool_list, is_bool_tuple, is_int_int, is_int_bool, is_int_str, is_int_list, is_int_tuple, is_str_int, is_str_bool, is_str_str, is_str_list, is_str_tuple, is_list_int, is_list_bool, is_list_str, is_list_list, is_list_tuple, is_tuple_int, is_tuple_bool, is_tuple_str, is_tuple_list, is_tuple_tuple, is_dict_int, is_dict_bool, is_dict_str, is_dict_list, is_dict_tuple, fn12 (k+3) ds l, b22]
  rw [want_loop (fun d hd => by simp [evSs, evS, evE, evEs, evB, evC, evO, evP, evI, callD, argSl, argSls, bors, wb, frz, frzs, sees, R.see, lockS, unlockS, asgS, asgR, retR, setD, asgT, unlockO, backA, endF, nIf, nIfs, isAnd, truD, RD.r, binD, cmpD, biD, ixD, Mn.Loc, keyD, meD, recv, gtD, apD, eq_ss, eq_ii, eq_is, eq_si, ok_b, ok_t, bt, tb, in_b, in_t, in_i, gd0, gd1, gd2, gd3, is_NoneType_int, is_NoneType_bool, is_NoneType_str, is_NoneType_list, is_NoneType_tuple, is_bool_int, is_bool_bool, is_bool_str, is_bool_list, is_bool_tuple, is_int_int, is_int_bool, is_int_str, is_int_list, is_int_tuple, is_str_int, is_str_bool, is_str_str, is_str_list, is_str_tuple, is_list_int, is_list_bool, is_list_str, is_list_list, is_list_tuple, is_tuple_int, is_tuple_bool, is_tuple_str, is_tuple_list, is_tuple_tuple, is_dict_int, is_dict_bool, is_dict_str, is_dict_list, is_dict_tuple, lpS, want k hd]) _ _ (by simp [evSs, evS, evE, evEs, evB, evC, evO, evP, evI, callD, argSl, argSls, bors, wb, frz, frzs, sees, R.see, lockS, unlockS, asgS, asgR, retR, setD, asgT, unlockO, backA, endF, nIf, nIfs, isAnd, truD, RD.r, binD, cmpD, biD, ixD, Mn.Loc, keyD, meD, recv, gtD, apD, eq_ss, eq_ii, eq_is, eq_si, ok_b, ok_t, bt, tb, in_b, in_t, in_i, gd0, gd1, gd2, gd3, is_NoneType_int, is_NoneType_bool, is_NoneType_str, is_NoneType_list, is_NoneType_tuple, is_bool_int, is_bool_bool, is_bool_str, is_bool_list, is_bool_tuple, is_int_int, is_int_bool, is_int_str, is_int_list, is_int_tuple, is_str_int, is_str_bool, is_str_str, is_str_list, is_str_tuple, is_list_int, is_list_bool, is_list_str, is_list_list, is_list_tuple, is_tuple_int, is_tuple_bool, is_tuple_str, is_tuple_list, is_tuple_tuple, is_dict_int, is_dict_bool, is_dict_str, is_dict_list, is_dict_tuple]) h]
  simp [evSs, evS, evE, evEs, evB, evC, evO, evP, evI, callD, argSl, argSls, bors, wb, frz, frzs, sees, R.see, lockS, unlockS, asgS, asgR, retR, setD, asgT, unlockO, backA, endF, nIf, nIfs, isAnd, truD, RD.r, binD, cmpD, biD, ixD, Mn.Loc, keyD, meD, recv, gtD, apD, eq_ss, eq_ii, eq_is, eq_si, ok_b, ok_t, bt, tb, in_b, in_t, in_i, gd0, gd1, gd2, gd3, is_NoneType_int, is_NoneType_bool, is_NoneType_str, is_NoneType_list, is_NoneType_tuple, is_bool_int, is_bool_bool, is_bool_str, is_bool_list, is_bool_tuple, is_int_int, is_int_bool, is_int_str, is_int_list, is_int_tuple, is_str_int, is_str_bool, is_str_str, is_str_list, is_str_tuple, is_list_int, is_list_bool, is_list_str, is_list_list, is_list_tuple, is_tuple_int, is_tuple_bool, is_tuple_str, is_tuple_list, is_tuple_tuple, is_dict_int, is_dict_bool, is_dict_str, is_dict_list, is_dict_tuple, low (k+1) h]
theorem greater (k : Nat) {ds : List D} (l : ds.length ≤ big) (h : ∀ d ∈ ds, Th d) : rn (k+4) 13 (ds.map .val) = some (.ret (.val (ds.foldl hi sB)) (ds.map .val)) := by
  simp [evSs, evS, evE, evEs, evB, evC, evO, evP, evI, callD, argSl, argSls, bors, wb, frz, frzs, sees, R.see, lockS, unlockS, asgS, asgR, retR, setD, asgT, unlockO, backA, endF, nIf, nIfs, isAnd, truD, RD.r, binD, cmpD, biD, ixD, Mn.Loc, keyD, meD, recv, gtD, apD, eq_ss, eq_ii, eq_is, eq_si, ok_b, ok_t, bt, tb, in_b, in_t, in_i, gd0, gd1, gd2, gd3, is_NoneType_int, is_NoneType_bool, is_NoneType_str, is_NoneType_list, is_NoneType_tuple, is_bool_int, is_bool_bool, is_bool_str, is_bool_list, is_bool_tuple, is_int_int, is_int_bool, is_int_str, is_int_list, is_int_tuple, is_str_int, is_str_bool, is_str_str, is_str_list, is_str_tuple, is_list_int, is_list_bool, is_list_str, is_list_list, is_list_tuple, is_tuple_int, is_tuple_bool, is_tuple_str, is_tuple_list, is_tuple_tuple, is_dict_int, is_dict_bool, is_dict_str, is_dict_list, is_dict_tuple, fn13 (k+3) ds l, b23]
  rw [want_loop (fun d hd => by simp [evSs, evS, evE, evEs, evB, evC, evO, evP, evI, callD, argSl, argSls, bors, wb, frz, frzs, sees, R.see, lockS, unlockS, asgS, asgR, retR, setD, asgT, unlockO, backA, endF, nIf, nIfs, isAnd, truD, RD.r, binD, cmpD, biD, ixD, Mn.Loc, keyD, meD, recv, gtD, apD, eq_ss, eq_ii, eq_is, eq_si, ok_b, ok_t, bt, tb, in_b, in_t, in_i, gd0, gd1, gd2, gd3, is_NoneType_int, is_NoneType_bool, is_NoneType_str, is_NoneType_list, is_NoneType_tuple, is_bool_int, is_bool_bool, is_bool_str, is_bool_list, is_bool_tuple, is_int_int, is_int_bool, is_int_str, is_int_list, is_int_tuple, is_str_int, is_str_bool, is_str_str, is_str_list, is_str_tuple, is_list_int, is_list_bool, is_list_str, is_list_list, is_list_tuple, is_tuple_int, is_tuple_bool, is_tuple_str, is_tuple_list, is_tuple_tuple, is_dict_int, is_dict_bool, is_dict_str, is_dict_list, is_dict_tuple, lpS, want k hd]) _ _ (by simp [evSs, evS, evE, evEs, evB, evC, evO, evP, evI, callD, argSl, argSls, bors, wb, frz, frzs, sees, R.see, lockS, unlockS, asgS, asgR, retR, setD, asgT, unlockO, backA, endF, nIf, nIfs, isAnd, truD, RD.r, binD, cmpD, biD, ixD, Mn.Loc, keyD, meD, recv, gtD, apD, eq_ss, eq_ii, eq_is, eq_si, ok_b, ok_t, bt, tb, in_b, in_t, in_i, gd0, gd1, gd2, gd3, is_NoneType_int, is_NoneType_bool, is_NoneType_str, is_NoneType_list, is_NoneType_tuple, is_bool_int, is_bool_bool, is_bool_str, is_bool_list, is_bool_tuple, is_int_int, is_int_bool, is_int_str, is_int_list, is_int_tuple, is_str_int, is_str_bool, is_str_str, is_str_list, is_str_tuple, is_list_int, is_list_bool, is_list_str, is_list_list, is_list_tuple, is_tuple_int, is_tuple_bool, is_tuple_str, is_tuple_list, is_tuple_tuple, is_dict_int, is_dict_bool, is_dict_str, is_dict_list, is_dict_tuple]) h]
  simp [evSs, evS, evE, evEs, evB, evC, evO, evP, evI, callD, argSl, argSls, bors, wb, frz, frzs, sees, R.see, lockS, unlockS, asgS, asgR, retR, setD, asgT, unlockO, backA, endF, nIf, nIfs, isAnd, truD, RD.r, binD, cmpD, biD, ixD, Mn.Loc, keyD, meD, recv, gtD, apD, eq_ss, eq_ii, eq_is, eq_si, ok_b, ok_t, bt, tb, in_b, in_t, in_i, gd0, gd1, gd2, gd3, is_NoneType_int, is_NoneType_bool, is_NoneType_str, is_NoneType_list, is_NoneType_tuple, is_bool_int, is_bool_bool, is_bool_str, is_bool_list, is_bool_tuple, is_int_int, is_int_bool, is_int_str, is_int_list, is_int_tuple, is_str_int, is_str_bool, is_str_str, is_str_list, is_str_tuple, is_list_int, is_list_bool, is_list_str, is_list_list, is_list_tuple, is_tuple_int, is_tuple_bool, is_tuple_str, is_tuple_list, is_tuple_tuple, is_dict_int, is_dict_bool, is_dict_str, is_dict_list, is_dict_tuple, high (k+1) h]
theorem lesser_odd (k : Nat) {ds r : List D} {o : D} (l : (ds ++ o :: r).length ≤ big) (h : ∀ d ∈ ds, Th d) (ho : o ∈ odds) : rn (k+4) 12 ((ds ++ o :: r).map .val) = some (.exc 0 o ((ds ++ o :: r).map .val)) := by
  rw [fn12 (k+3) _ l, b22]
  simp only [evSs, evS_fr, evI, evE, List.getElem?_cons_zero, lockS]
  rw [odd_loop (fun d hd => by simp [evSs, evS, evE, evEs, evB, evC, evO, evP, evI, callD, argSl, argSls, bors, wb, frz, frzs, sees, R.see, lockS, unlockS, asgS, asgR, retR, setD, asgT, unlockO, backA, endF, nIf, nIfs, isAnd, truD, RD.r, binD, cmpD, biD, ixD, Mn.Loc, keyD, meD, recv, gtD, apD, eq_ss, eq_ii, eq_is, eq_si, ok_b, ok_t, bt, tb, in_b, in_t, in_i, gd0, gd1, gd2, gd3, is_NoneType_int, is_NoneType_bool, is_NoneType_str, is_NoneType_list, is_NoneType_tuple, is_bool_int, is_bool_bool, is_bool_str, is_bool_list, is_bool_tuple, is_int_int, is_int_bool, is_int_str, is_int_list, is_int_tuple, is_str_int, is_str_bool, is_str_str, is_str_list, is_str_tuple, is_list_int, is_list_bool, is_list_str, is_list_list, is_list_tuple, is_tuple_int, is_tuple_bool, is_tuple_str, is_tuple_list, is_tuple_tuple, is_dict_int, is_dict_bool, is_dict_str, is_dict_list, is_dict_tuple, lpS, want k hd]) (by simp [evSs, evS, evE, evEs, evB, evC, evO, evP, evI, callD, argSl, argSls, bors, wb, frz, frzs, sees, R.see, lockS, unlockS, asgS, asgR, retR, setD, asgT, unlockO, backA, endF, nIf, nIfs, isAnd, truD, RD.r, binD, cmpD, biD, ixD, Mn.Loc, keyD, meD, recv, gtD, apD, eq_ss, eq_ii, eq_is, eq_si, ok_b, ok_t, bt, tb, in_b, in_t, in_i, gd0, gd1, gd2, gd3, is_NoneType_int, is_NoneType_bool, is_NoneType_str, is_NoneType_list, is_NoneType_tuple, is_bool_int, is_bool_bool, is_bool_str, is_bool_list, is_bool_tuple, is_int_int, is_int_bool, is_int_str, is_int_list, is_int_tuple, is_str_int, is_str_bool, is_str_str, is_str_list, is_str_tuple, is_list_int, is_list_bool, is_list_str, is_list_list, is_list_tuple, is_tuple_int, is_tuple_bool, is_tuple_str, is_tuple_list, is_tuple_tuple, is_dict_int, is_dict_bool, is_dict_str, is_dict_list, is_dict_tuple, lpS, odd_want k ho]) _ _ (by simp [evSs, evS, evE, evEs, evB, evC, evO, evP, evI, callD, argSl, argSls, bors, wb, frz, frzs, sees, R.see, lockS, unlockS, asgS, asgR, retR, setD, asgT, unlockO, backA, endF, nIf, nIfs, isAnd, truD, RD.r, binD, cmpD, biD, ixD, Mn.Loc, keyD, meD, recv, gtD, apD, eq_ss, eq_ii, eq_is, eq_si, ok_b, ok_t, bt, tb, in_b, in_t, in_i, gd0, gd1, gd2, gd3, is_NoneType_int, is_NoneType_bool, is_NoneType_str, is_NoneType_list, is_NoneType_tuple, is_bool_int, is_bool_bool, is_bool_str, is_bool_list, is_bool_tuple, is_int_int, is_int_bool, is_int_str, is_int_list, is_int_tuple, is_str_int, is_str_bool, is_str_str, is_str_list, is_str_tuple, is_list_int, is_list_bool, is_list_str, is_list_list, is_list_tuple, is_tuple_int, is_tuple_bool, is_tuple_str, is_tuple_list, is_tuple_tuple, is_dict_int, is_dict_bool, is_dict_str, is_dict_list, is_dict_tuple]) h]
  simp [evSs, evS, evE, evEs, evB, evC, evO, evP, evI, callD, argSl, argSls, bors, wb, frz, frzs, sees, R.see, lockS, unlockS, asgS, asgR, retR, setD, asgT, unlockO, backA, endF, nIf, nIfs, isAnd, truD, RD.r, binD, cmpD, biD, ixD, Mn.Loc, keyD, meD, recv, gtD, apD, eq_ss, eq_ii, eq_is, eq_si, ok_b, ok_t, bt, tb, in_b, in_t, in_i, gd0, gd1, gd2, gd3, is_NoneType_int, is_NoneType_bool, is_NoneType_str, is_NoneType_list, is_NoneType_tuple, is_bool_int, is_bool_bool, is_bool_str, is_bool_list, is_bool_tuple, is_int_int, is_int_bool, is_int_str, is_int_list, is_int_tuple, is_str_int, is_str_bool, is_str_str, is_str_list, is_str_tuple, is_list_int, is_list_bool, is_list_str, is_list_list, is_list_tuple, is_tuple_int, is_tuple_bool, is_tuple_str, is_tuple_list, is_tuple_tuple, is_dict_int, is_dict_bool, is_dict_str, is_dict_list, is_dict_tuple]
theorem greater_odd (k : Nat) {ds r : List D} {o : D} (l : (ds ++ o :: r).length ≤ big) (h : ∀ d ∈ ds, Th d) (ho : o ∈ odds) : rn (k+4) 13 ((ds ++ o :: r).map .val) = some (.exc 0 o ((ds ++ o :: r).map .val)) := by
  rw [fn13 (k+3) _ l, b23]
  simp only [evSs, evS_fr, evI, evE, List.getElem?_cons_zero, lockS]
  rw [odd_loop (fun d hd => by simp [evSs, evS, evE, evEs, evB, evC, evO, evP, evI, callD, argSl, argSls, bors, wb, frz, frzs, sees, R.see, lockS, unlockS, asgS, asgR, retR, setD, asgT, unlockO, backA, endF, nIf, nIfs, isAnd, truD, RD.r, binD, cmpD, biD, ixD, Mn.Loc, keyD, meD, recv, gtD, apD, eq_ss, eq_ii, eq_is, eq_si, ok_b, ok_t, bt, tb, in_b, in_t, in_i, gd0, gd1, gd2, gd3, is_NoneType_int, is_NoneType_bool, is_NoneType_str, is_NoneType_list, is_NoneType_tuple, is_bool_int, is_bool_bool, is_bool_str, is_bool_list, is_bool_tuple, is_int_int, is_int_bool, is_int_str, is_int_list, is_int_tuple, is_str_int, is_str_bool, is_str_str, is_str_list, is_str_tuple, is_list_int, is_list_bool, is_list_str, is_list_list, is_list_tuple, is_tuple_int, is_tuple_bool, is_tuple_str, is_tuple_list, is_tuple_tuple, is_dict_int, is_dict_bool, is_dict_str, is_dict_list, is_dict_tuple, lpS, want k hd]) (by simp [evSs, evS, evE, evEs, evB, evC, evO, evP, evI, callD, argSl, argSls, bors, wb, frz, frzs, sees, R.see, lockS, unlockS, asgS, asgR, retR, setD, asgT, unlockO, backA, endF, nIf, nIfs, isAnd, truD, RD.r, binD, cmpD, biD, ixD, Mn.Loc, keyD, meD, recv, gtD, apD, eq_ss, eq_ii, eq_is, eq_si, ok_b, ok_t, bt, tb, in_b, in_t, in_i, gd0, gd1, gd2, gd3, is_NoneType_int, is_NoneType_bool, is_NoneType_str, is_NoneType_list, is_NoneType_tuple, is_bool_int, is_bool_bool, is_bool_str, is_bool_list, is_bool_tuple, is_int_int, is_int_bool, is_int_str, is_int_list, is_int_tuple, is_str_int, is_str_bool, is_str_str, is_str_list, is_str_tuple, is_list_int, is_list_bool, is_list_str, is_list_list, is_list_tuple, is_tuple_int, is_tuple_bool, is_tuple_str, is_tuple_list, is_tuple_tuple, is_dict_int, is_dict_bool, is_dict_str, is_dict_list, is_dict_tuple, lpS, odd_want k ho]) _ _ (by simp [evSs, evS, evE, evEs, evB, evC, evO, evP, evI, callD, argSl, argSls, bors, wb, frz, frzs, sees, R.see, lockS, unlockS, asgS, asgR, retR, setD, asgT, unlockO, backA, endF, nIf, nIfs, isAnd, truD, RD.r, binD, cmpD, biD, ixD, Mn.Loc, keyD, meD, recv, gtD, apD, eq_ss, eq_ii, eq_is, eq_si, ok_b, ok_t, bt, tb, in_b, in_t, in_i, gd0, gd1, gd2, gd3, is_NoneType_int, is_NoneType_bool, is_NoneType_str, is_NoneType_list, is_NoneType_tuple, is_bool_int, is_bool_bool, is_bool_str, is_bool_list, is_bool_tuple, is_int_int, is_int_bool, is_int_str, is_int_list, is_int_tuple, is_str_int, is_str_bool, is_str_str, is_str_list, is_str_tuple, is_list_int, is_list_bool, is_list_str, is_list_list, is_list_tuple, is_tuple_int, is_tuple_bool, is_tuple_str, is_tuple_list, is_tuple_tuple, is_dict_int, is_dict_bool, is_dict_str, is_dict_list, is_dict_tuple]) h]
  simp [evSs, evS, evE, evEs, evB, evC, evO, evP, evI, callD, argSl, argSls, bors, wb, frz, frzs, sees, R.see, lockS, unlockS, asgS, asgR, retR, setD, asgT, unlockO, backA, endF, nIf, nIfs, isAnd, truD, RD.r, binD, cmpD, biD, ixD, Mn.Loc, keyD, meD, recv, gtD, apD, eq_ss, eq_ii, eq_is, eq_si, ok_b, ok_t, bt, tb, in_b, in_t, in_i, gd0, gd1, gd2, gd3, is_NoneType_int, is_NoneType_bool, is_NoneType_str, is_NoneType_list, is_NoneType_tuple, is_bool_int, is_bool_bool, is_bool_str, is_bool_list, is_bool_tuple, is_int_int, is_int_bool, is_int_str, is_int_list, is_int_tuple, is_str_int, is_str_bool, is_str_str, is_str_list, is_str_tuple, is_list_int, is_list_bool, is_list_str, is_list_list, is_list_tuple, is_tuple_int, is_tuple_bool, is_tuple_str, is_tuple_list, is_tuple_tuple, is_dict_int, is_dict_bool, is_dict_str, is_dict_list, is_dict_tuple]
/-! levels -/
def lev (d : D) (i : Int) : D := if i ≤ num d then sT else sB
theorem end_at (k : Nat) {d : D} {i : Int} (h : Th d) (hi : Th (.int i)) : rn (k+2) 9 [.val d, .val (.int i)] = some (.ret (.val (lev d i)) [.val d, .val (.int i)]) := by
  simp [evSs, evS, evE, evEs, evB, evC, evO, evP, evI, callD, argSl, argSls, bors, wb, frz, frzs, sees, R.see, lockS, unlockS, asgS, asgR, retR, setD, asgT, unlockO, backA, endF, nIf, nIfs, isAnd, truD, RD.r, binD, cmpD, biD, ixD, Mn.Loc, keyD, meD, recv, gtD, apD, eq_ss, eq_ii, eq_is, eq_si, ok_b, ok_t, bt, tb, in_b, in_t, in_i, gd0, gd1, gd2, gd3, is_NoneType_int, is_NoneType_bool, is_NoneType_str, is_NoneType_list, is_NoneType_tuple, is_bool_int, is_bool_bool, is_bool_str, is_bool_list, is_bool_tuple, is_int_int, is_int_bool, is_int_str, is_int_list, is_int_tuple, is_str_int, is_str_bool, is_str_str, is_str_list, is_str_tuple, is_list_int, is_list_bool, is_list_str, is_list_list, is_list_tuple, is_tuple_int, is_tuple_bool, is_tuple_str, is_tuple_list, is_tuple_tuple, is_dict_int, is_dict_bool, is_dict_str, is_dict_list, is_dict_tuple, fn9, b19, notless k h hi]
  have e : num (.int i) = i := rfl
  by_cases q : i ≤ num d <;> simp [evSs, evS, evE, evEs, evB, evC, evO, evP, evI, callD, argSl, argSls, bors, wb, frz, frzs, sees, R.see, lockS, unlockS, asgS, asgR, retR, setD, asgT, unlockO, backA, endF, nIf, nIfs, isAnd, truD, RD.r, binD, cmpD, biD, ixD, Mn.Loc, keyD, meD, recv, gtD, apD, eq_ss, eq_ii, eq_is, eq_si, ok_b, ok_t, bt, tb, in_b, in_t, in_i, gd0, gd1, gd2, gd3, is_NoneType_int, is_NoneType_bool, is_NoneType_str, is_NoneType_list, is_NoneType_tuple, is_bool_int, is_bool_bool, is_bool_str, is_bool_list, is_bool_tuple, is_int_int, is_int_bool, is_int_str, is_int_list, is_int_tuple, is_str_int, is_str_bool, is_str_str, is_str_list, is_str_tuple, is_list_int, is_list_bool, is_list_str, is_list_list, is_list_tuple, is_tuple_int, is_tuple_bool, is_tuple_str, is_tuple_list, is_tuple_tuple, is_dict_int, is_dict_bool, is_dict_str, is_dict_list, is_dict_tuple, q, e, lev]
theorem at_lev (k : Nat) {d : D} {i : Int} (h : Th d) (hi : Th (.int i)) : rn (k+4) 14 [.val d, .val (.int i)] = some (.ret (.val (lev d i)) [.val d, .val (.int i)]) := by
  simp [evSs, evS, evE, evEs, evB, evC, evO, evP, evI, callD, argSl, argSls, bors, wb, frz, frzs, sees, R.see, lockS, unlockS, asgS, asgR, retR, setD, asgT, unlockO, backA, endF, nIf, nIfs, isAnd, truD, RD.r, binD, cmpD, biD, ixD, Mn.Loc, keyD, meD, recv, gtD, apD, eq_ss, eq_ii, eq_is, eq_si, ok_b, ok_t, bt, tb, in_b, in_t, in_i, gd0, gd1, gd2, gd3, is_NoneType_int, is_NoneType_bool, is_NoneType_str, is_NoneType_list, is_NoneType_tuple, is_bool_int, is_bool_bool, is_bool_str, is_bool_list, is_bool_tuple, is_int_int, is_int_bool, is_int_str, is_int_list, is_int_tuple, is_str_int, is_str_bool, is_str_str, is_str_list, is_str_tuple, is_list_int, is_list_bool, is_list_str, is_list_list, is_list_tuple, is_tuple_int, is_tuple_bool, is_tuple_str, is_tuple_list, is_tuple_tuple, is_dict_int, is_dict_bool, is_dict_str, is_dict_list, is_dict_tuple, fn14, b24, want k h, want_i (k+1) i, end_at (k+1) h hi]
theorem at_least (k : Nat) {x y : D} (hx : Th x) (hy : Th y) : rn (k+4) 11 [.val x, .val y] = some (.ret (.val (.bl (decide (num y ≤ num x)))) [.val x, .val y]) := by
  simp [evSs, evS, evE, evEs, evB, evC, evO, evP, evI, callD, argSl, argSls, bors, wb, frz, frzs, sees, R.see, lockS, unlockS, asgS, asgR, retR, setD, asgT, unlockO, backA, endF, nIf, nIfs, isAnd, truD, RD.r, binD, cmpD, biD, ixD, Mn.Loc, keyD, meD, recv, gtD, apD, eq_ss, eq_ii, eq_is, eq_si, ok_b, ok_t, bt, tb, in_b, in_t, in_i, gd0, gd1, gd2, gd3, is_NoneType_int, is_NoneType_bool, is_NoneType_str, is_NoneType_list, is_NoneType_tuple, is_bool_int, is_bool_bool, is_bool_str, is_bool_list, is_bool_tuple, is_int_int, is_int_bool, is_int_str, is_int_list, is_int_tuple, is_str_int, is_str_bool, is_str_str, is_str_list, is_str_tuple, is_list_int, is_list_bool, is_list_str, is_list_list, is_list_tuple, is_tuple_int, is_tuple_bool, is_tuple_str, is_tuple_list, is_tuple_tuple, is_dict_int, is_dict_bool, is_dict_str, is_dict_list, is_dict_tuple, fn11, b21, want k hx, want k hy, notless (k+2) hx hy]
end K11

-- P11d
set_option Elab.async false
set_option linter.all false
set_option maxRecDepth 100000
set_option maxHeartbeats 4000000
set_option autoImplicit false
namespace K11
open PySem Mn
theorem lc_eq {fe : List Sl → Option EO} {fc : List Sl → Option (Bool × List Sl)} {x : Nat} {δ : List Sl} (p : D → Bool) (g : D → D) {xs acc : List D} (s : Sl) (h0 : δ.set x s = δ)
    (hc : ∀ d ∈ xs, fc (δ.set x (.val d)) = some (p d, δ.set x (.val d))) (he : ∀ d ∈ xs, p d = true → fe (δ.set x (.val d)) = some (.ok (.val (g d)) (δ.set x (.val d)))) (hl : acc.length + xs.length ≤ 1000000) :
    lcL fe fc x xs δ acc = some (acc ++ (xs.filter p).map g, δ.set x (xs.foldl (fun _ d => .val d) s)) := by
  rw [← lc_ok xs acc s hc he hl, h0]
def isI : D → Bool
  | .int _ => true
  | _ => false
def itg : List D → List Int
  | [] => []
  | .int i :: ds => i :: itg ds
  | _ :: ds => itg ds
theorem itg_len : ∀ ds : List D, (itg ds).length ≤ ds.length
  | [] => by simp [evSs, evS, evE, evEs, evB, evC, evO, evP, evI, callD, argSl, argSls, bors, wb, frz, frzs, sees, R.see, lockS, unlockS, asgS, asgR, retR, setD, asgT, unlockO, backA, endF, nIf, nIfs, isAnd, truD, RD.r, binD, cmpD, biD, ixD, Mn.Loc, keyD, meD, recv, gtD, apD, eq_ss, eq_ii, eq_is, eq_si, ok_b, ok_t, bt, tb, in_b, in_t, in_i, gd0, gd1, gd2, gd3, is_NoneType_int, is_NoneType_bool, is_NoneType_str, is_NoneType_list, is_NoneType_tuple, is_bool_int, is_bool_bool, is_bool_str, is_bool_list, is_bool_tuple, is_int_int, is_int_bool, is_int_str, is_int_list, is_int_tuple, is_str_int, is_str_bool, is_str_str, is_str_list, is_str_tuple, is_list_int, is_list_bool, is_list_str, is_list_list, is_list_tuple, is_tuple_int, is_tuple_bool, is_tuple_str, is_tuple_list, is_tuple_tuple, is_dict_int, is_dict_bool, is_dict_str, is_dict_list, is_dict_tuple, isiDs, L2.atI, L2.ixN, big, itg]
  | d :: ds => by
    have := itg_len ds
    cases d <;> simp [evSs, evS, evE, evEs, evB, evC, evO, evP, evI, callD, argSl, argSls, bors, wb, frz, frzs, sees, R.see, lockS, unlockS, asgS, asgR, retR, setD, asgT, unlockO, backA, endF, nIf, nIfs, isAnd, truD, RD.r, binD, cmpD, biD, ixD, Mn.Loc, keyD, meD, recv, gtD, apD, eq_ss, eq_ii, eq_is, eq_si, ok_b, ok_t, bt, tb, in_b, in_t, in_i, gd0, gd1, gd2, gd3, is_NoneType_int, is_NoneType_bool, is_NoneType_str, is_NoneType_list, is_NoneType_tuple, is_bool_int, is_bool_bool, is_bool_str, is_bool_list, is_bool_tuple, is_int_int, is_int_bool, is_int_str, is_int_list, is_int_tuple, is_str_int, is_str_bool, is_str_str, is_str_list, is_str_tuple, is_list_int, is_list_bool, is_list_str, is_list_list, is_list_tuple, is_tuple_int, is_tuple_bool, is_tuple_str, is_tuple_list, is_tuple_tuple, is_dict_int, is_dict_bool, is_dict_str, is_dict_list, is_dict_tuple, isiDs, L2.atI, L2.ixN, big, itg] <;> omega
theorem asInts_f : ∀ ds : List D, asInts (ds.filter isI) = some (itg ds)
  | [] => rfl
  | d :: ds => by
    have := asInts_f ds
    cases d <;> simp [evSs, evS, evE, evEs, evB, evC, evO, evP, evI, callD, argSl, argSls, bors, wb, frz, frzs, sees, R.see, lockS, unlockS, asgS, asgR, retR, setD, asgT, unlockO, backA, endF, nIf, nIfs, isAnd, truD, RD.r, binD, cmpD, biD, ixD, Mn.Loc, keyD, meD, recv, gtD, apD, eq_ss, eq_ii, eq_is, eq_si, ok_b, ok_t, bt, tb, in_b, in_t, in_i, gd0, gd1, gd2, gd3, is_NoneType_int, is_NoneType_bool, is_NoneType_str, is_NoneType_list, is_NoneType_tuple, is_bool_int, is_bool_bool, is_bool_str, is_bool_list, is_bool_tuple, is_int_int, is_int_bool, is_int_str, is_int_list, is_int_tuple, is_str_int, is_str_bool, is_str_str, is_str_list, is_str_tuple, is_list_int, is_list_bool, is_list_str, is_list_list, is_list_tuple, is_tuple_int, is_tuple_bool, is_tuple_str, is_tuple_list, is_tuple_tuple, is_dict_int, is_dict_bool, is_dict_str, is_dict_list, is_dict_tuple, isiDs, L2.atI, L2.ixN, big, List.filter, isI, itg, asInts, this]
def L (ds : List D) : List D := ((srtI (itg ds)).map D.int).reverse
theorem th_int (k : Nat) {d : D} (h : Th d) : rn (k+1) 0 [.val d] = some (.ret (.val (.bl (isI d))) [.val d]) := by
  cases h <;> simp [evSs, evS, evE, evEs, evB, evC, evO, evP, evI, callD, argSl, argSls, bors, wb, frz, frzs, sees, R.see, lockS, unlockS, asgS, asgR, retR, setD, asgT, unlockO, backA, endF, nIf, nIfs, isAnd, truD, RD.r, binD, cmpD, biD, ixD, Mn.Loc, keyD, meD, recv, gtD, apD, eq_ss, eq_ii, eq_is, eq_si, ok_b, ok_t, bt, tb, in_b, in_t, in_i, gd0, gd1, gd2, gd3, is_NoneType_int, is_NoneType_bool, is_NoneType_str, is_NoneType_list, is_NoneType_tuple, is_bool_int, is_bool_bool, is_bool_str, is_bool_list, is_bool_tuple, is_int_int, is_int_bool, is_int_str, is_int_list, is_int_tuple, is_str_int, is_str_bool, is_str_str, is_str_list, is_str_tuple, is_list_int, is_list_bool, is_list_str, is_list_list, is_list_tuple, is_tuple_int, is_tuple_bool, is_tuple_str, is_tuple_list, is_tuple_tuple, is_dict_int, is_dict_bool, is_dict_str, is_dict_list, is_dict_tuple, isiDs, L2.atI, L2.ixN, big, is_int_i, is_int_s, isI]
theorem ints_own (k : Nat) {ds : List D} (h : ∀ d ∈ ds, Th d) (l : ds.length < 64) : rn (k+2) 10 [.own ds] = some (.ret (.new (L ds)) [.own ds]) := by
  have := itg_len ds
  simp [evSs, evS, evE, evEs, evB, evC, evO, evP, evI, callD, argSl, argSls, bors, wb, frz, frzs, sees, R.see, lockS, unlockS, asgS, asgR, retR, setD, asgT, unlockO, backA, endF, nIf, nIfs, isAnd, truD, RD.r, binD, cmpD, biD, ixD, Mn.Loc, keyD, meD, recv, gtD, apD, eq_ss, eq_ii, eq_is, eq_si, ok_b, ok_t, bt, tb, in_b, in_t, in_i, gd0, gd1, gd2, gd3, is_NoneType_int, is_NoneType_bool, is_NoneType_str, is_NoneType_list, is_NoneType_tuple, is_bool_int, is_bool_bool, is_bool_str, is_bool_list, is_bool_tuple, is_int_int, is_int_bool, is_int_str, is_int_list, is_int_tuple, is_str_int, is_str_bool, is_str_str, is_str_list, is_str_tuple, is_list_int, is_list_bool, is_list_str, is_list_list, is_list_tuple, is_tuple_int, is_tuple_bool, is_tuple_str, is_tuple_list, is_tuple_tuple, is_dict_int, is_dict_bool, is_dict_str, is_dict_list, is_dict_tuple, isiDs, L2.atI, L2.ixN, big, fn10, b20]
  rw [lc_eq isI id .un rfl (fun d hd => by simp [evSs, evS, evE, evEs, evB, evC, evO, evP, evI, callD, argSl, argSls, bors, wb, frz, frzs, sees, R.see, lockS, unlockS, asgS, asgR, retR, setD, asgT, unlockO, backA, endF, nIf, nIfs, isAnd, truD, RD.r, binD, cmpD, biD, ixD, Mn.Loc, keyD, meD, recv, gtD, apD, eq_ss, eq_ii, eq_is, eq_si, ok_b, ok_t, bt, tb, in_b, in_t, in_i, gd0, gd1, gd2, gd3, is_NoneType_int, is_NoneType_bool, is_NoneType_str, is_NoneType_list, is_NoneType_tuple, is_bool_int, is_bool_bool, is_bool_str, is_bool_list, is_bool_tuple, is_int_int, is_int_bool, is_int_str, is_int_list, is_int_tuple, is_str_int, is_str_bool, is_str_str, is_str_list, is_str_tuple, is_list_int, is_list_bool, is_list_str, is_list_list, is_list_tuple, is_tuple_int, is_tuple_bool, is_tuple_str, is_tuple_list, is_tuple_tuple, is_dict_int, is_dict_bool, is_dict_str, is_dict_list, is_dict_tuple, isiDs, L2.atI, L2.ixN, big, lpC, th_int k (h d hd)]) (fun d hd _ => by simp [evSs, evS, evE, evEs, evB, evC, evO, evP, evI, callD, argSl, argSls, bors, wb, frz, frzs, sees, R.see, lockS, unlockS, asgS, asgR, retR, setD, asgT, unlockO, backA, endF, nIf, nIfs, isAnd, truD, RD.r, binD, cmpD, biD, ixD, Mn.Loc, keyD, meD, recv, gtD, apD, eq_ss, eq_ii, eq_is, eq_si, ok_b, ok_t, bt, tb, in_b, in_t, in_i, gd0, gd1, gd2, gd3, is_NoneType_int, is_NoneType_bool, is_NoneType_str, is_NoneType_list, is_NoneType_tuple, is_bool_int, is_bool_bool, is_bool_str, is_bool_list, is_bool_tuple, is_int_int, is_int_bool, is_int_str, is_int_list, is_int_tuple, is_str_int, is_str_bool, is_str_str, is_str_list, is_str_tuple, is_list_int, is_list_bool, is_list_str, is_list_list, is_list_tuple, is_tuple_int, is_tuple_bool, is_tuple_str, is_tuple_list, is_tuple_tuple, is_dict_int, is_dict_bool, is_dict_str, is_dict_list, is_dict_tuple, isiDs, L2.atI, L2.ixN, big, lpE]) (by simp [evSs, evS, evE, evEs, evB, evC, evO, evP, evI, callD, argSl, argSls, bors, wb, frz, frzs, sees, R.see, lockS, unlockS, asgS, asgR, retR, setD, asgT, unlockO, backA, endF, nIf, nIfs, isAnd, truD, RD.r, binD, cmpD, biD, ixD, Mn.Loc, keyD, meD, recv, gtD, apD, eq_ss, eq_ii, eq_is, eq_si, ok_b, ok_t, bt, tb, in_b, in_t, in_i, gd0, gd1, gd2, gd3, is_NoneType_int, is_NoneType_bool, is_NoneType_str, is_NoneType_list, is_NoneType_tuple, is_bool_int, is_bool_bool, is_bool_str, is_bool_list, is_bool_tuple, is_int_int, is_int_bool, is_int_str, is_int_list, is_int_tuple, is_str_int, is_str_bool, is_str_str, is_str_list, is_str_tuple, is_list_int, is_list_bool, is_list_str, is_list_list, is_list_tuple, is_tuple_int, is_tuple_bool, is_tuple_str, is_tuple_list, is_tuple_tuple, is_dict_int, is_dict_bool, is_dict_str, is_dict_list, is_dict_tuple, isiDs, L2.atI, L2.ixN, big]; omega)]
  simp [evSs, evS, evE, evEs, evB, evC, evO, evP, evI, callD, argSl, argSls, bors, wb, frz, frzs, sees, R.see, lockS, unlockS, asgS, asgR, retR, setD, asgT, unlockO, backA, endF, nIf, nIfs, isAnd, truD, RD.r, binD, cmpD, biD, ixD, Mn.Loc, keyD, meD, recv, gtD, apD, eq_ss, eq_ii, eq_is, eq_si, ok_b, ok_t, bt, tb, in_b, in_t, in_i, gd0, gd1, gd2, gd3, is_NoneType_int, is_NoneType_bool, is_NoneType_str, is_NoneType_list, is_NoneType_tuple, is_bool_int, is_bool_bool, is_bool_str, is_bool_list, is_bool_tuple, is_int_int, is_int_bool, is_int_str, is_int_list, is_int_tuple, is_str_int, is_str_bool, is_str_str, is_str_list, is_str_tuple, is_list_int, is_list_bool, is_list_str, is_list_list, is_list_tuple, is_tuple_int, is_tuple_bool, is_tuple_str, is_tuple_list, is_tuple_tuple, is_dict_int, is_dict_bool, is_dict_str, is_dict_list, is_dict_tuple, isiDs, L2.atI, L2.ixN, big, asInts_f, show (itg ds).length < 64 by omega, L]
theorem ints_tup (k : Nat) {ds : List D} (h : ∀ d ∈ ds, Th d) (l : ds.length < 64) : rn (k+2) 10 [.val (.tup ds)] = some (.ret (.new (L ds)) [.val (.tup ds)]) := by
  have := itg_len ds
  simp [evSs, evS, evE, evEs, evB, evC, evO, evP, evI, callD, argSl, argSls, bors, wb, frz, frzs, sees, R.see, lockS, unlockS, asgS, asgR, retR, setD, asgT, unlockO, backA, endF, nIf, nIfs, isAnd, truD, RD.r, binD, cmpD, biD, ixD, Mn.Loc, keyD, meD, recv, gtD, apD, eq_ss, eq_ii, eq_is, eq_si, ok_b, ok_t, bt, tb, in_b, in_t, in_i, gd0, gd1, gd2, gd3, is_NoneType_int, is_NoneType_bool, is_NoneType_str, is_NoneType_list, is_NoneType_tuple, is_bool_int, is_bool_bool, is_bool_str, is_bool_list, is_bool_tuple, is_int_int, is_int_bool, is_int_str, is_int_list, is_int_tuple, is_str_int, is_str_bool, is_str_str, is_str_list, is_str_tuple, is_list_int, is_list_bool, is_list_str, is_list_list, is_list_tuple, is_tuple_int, is_tuple_bool, is_tuple_str, is_tuple_list, is_tuple_tuple, is_dict_int, is_dict_bool, is_dict_str, is_dict_list, is_dict_tuple, isiDs, L2.atI, L2.ixN, big, fn10, b20]
  rw [lc_eq isI id .un rfl (fun d hd => by simp [evSs, evS, evE, evEs, evB, evC, evO, evP, evI, callD, argSl, argSls, bors, wb, frz, frzs, sees, R.see, lockS, unlockS, asgS, asgR, retR, setD, asgT, unlockO, backA, endF, nIf, nIfs, isAnd, truD, RD.r, binD, cmpD, biD, ixD, Mn.Loc, keyD, meD, recv, gtD, apD, eq_ss, eq_ii, eq_is, eq_si, ok_b, ok_t, bt, tb, in_b, in_t, in_i, gd0, gd1, gd2, gd3, is_NoneType_int, is_NoneType_bool, is_NoneType_str, is_NoneType_list, is_NoneType_tuple, is_bool_int, is_bool_bool, is_bool_str, is_bool_list, is_bool_tuple, is_int_int, is_int_bool, is_int_str, is_int_list, is_int_tuple, is_str_int, is_str_bool, is_str_str, is_str_list, is_str_tuple, is_list_int, is_list_bool, is_list_str, is_list_list, is_list_tuple, is_tuple_int, is_tuple_bool, is_tuple_str, is_tuple_list, is_tuple_tuple, is_dict_int, is_dict_bool, is_dict_str, is_dict_list, is_dict_tuple, isiDs, L2.atI, L2.ixN, big, lpC, th_int k (h d hd)]) (fun d hd _ => by simp [evSs, evS, evE, evEs, evB, evC, evO, evP, evI, callD, argSl, argSls, bors, wb, frz, frzs, sees, R.see, lockS, unlockS, asgS, asgR, retR, setD, asgT, unlockO, backA, endF, nIf, nIfs, isAnd, truD, RD.r, binD, cmpD, biD, ixD, Mn.Loc, keyD, meD, recv, gtD, apD, eq_ss, eq_ii, eq_is, eq_si, ok_b, ok_t, bt, tb, in_b, in_t, in_i, gd0, gd1, gd2, gd3, is_NoneType_int, is_NoneType_bool, is_NoneType_str, is_NoneType_list, is_NoneType_tuple, is_bool_int, is_bool_bool, is_bool_str, is_bool_list, is_bool_tuple, is_int_int, is_int_bool, is_int_str, is_int_list, is_int_tuple, is_str_int, is_str_bool, is_str_str, is_str_list, is_str_tuple, is_list_int, is_list_bool, is_list_str, is_list_list, is_list_tuple, is_tuple_int, is_tuple_bool, is_tuple_str, is_tuple_list, is_tuple_tuple, is_dict_int, is_dict_bool, is_dict_str, is_dict_list, is_dict_tuple, isiDs, L2.atI, L2.ixN, big, lpE]) (by simp [evSs, evS, evE, evEs, evB, evC, evO, evP, evI, callD, argSl, argSls, bors, wb, frz, frzs, sees, R.see, lockS, unlockS, asgS, asgR, retR, setD, asgT, unlockO, backA, endF, nIf, nIfs, isAnd, truD, RD.r, binD, cmpD, biD, ixD, Mn.Loc, keyD, meD, recv, gtD, apD, eq_ss, eq_ii, eq_is, eq_si, ok_b, ok_t, bt, tb, in_b, in_t, in_i, gd0, gd1, gd2, gd3, is_NoneType_int, is_NoneType_bool, is_NoneType_str, is_NoneType_list, is_NoneType_tuple, is_bool_int, is_bool_bool, is_bool_str, is_bool_list, is_bool_tuple, is_int_int, is_int_bool, is_int_str, is_int_list, is_int_tuple, is_str_int, is_str_bool, is_str_str, is_str_list, is_str_tuple, is_list_int, is_list_bool, is_list_str, is_list_list, is_list_tuple, is_tuple_int, is_tuple_bool, is_tuple_str, is_tuple_list, is_tuple_tuple, is_dict_int, is_dict_bool, is_dict_str, is_dict_list, is_dict_tuple, isiDs, L2.atI, L2.ixN, big]; omega)]
  simp [evSs, evS, evE, evEs, evB, evC, evO, evP, evI, callD, argSl, argSls, bors, wb, frz, frzs, sees, R.see, lockS, unlockS, asgS, asgR, retR, setD, asgT, unlockO, backA, endF, nIf, nIfs, isAnd, truD, RD.r, binD, cmpD, biD, ixD, Mn.Loc, keyD, meD, recv, gtD, apD, eq_ss, eq_ii, eq_is, eq_si, ok_b, ok_t, bt, tb, in_b, in_t, in_i, gd0, gd1, gd2, gd3, is_NoneType_int, is_NoneType_bool, is_NoneType_str, is_NoneType_list, is_NoneType_tuple, is_bool_int, is_bool_bool, is_bool_str, is_bool_list, is_bool_tuple, is_int_int, is_int_bool, is_int_str, is_int_list, is_int_tuple, is_str_int, is_str_bool, is_str_str, is_str_list, is_str_tuple, is_list_int, is_list_bool, is_list_str, is_list_list, is_list_tuple, is_tuple_int, is_tuple_bool, is_tuple_str, is_tuple_list, is_tuple_tuple, is_dict_int, is_dict_bool, is_dict_str, is_dict_list, is_dict_tuple, isiDs, L2.atI, L2.ixN, big, asInts_f, show (itg ds).length < 64 by omega, L]
def isV : D → Bool
  | .int _ => true
  | .str x => x == "bottom" || x == "top"
  | _ => false
theorem Th.v {d : D} (h : Th d) : isV d = true := by
  cases h
  · decide +kernel
  · decide +kernel
  · rfl
theorem odd_v {d : D} (h : d ∈ odds) : isV d = false := by
  have : ∀ d ∈ odds, isV d = false := by decide +kernel
  exact this d h
theorem vv (k : Nat) {d : D} (h : Th d ∨ d ∈ odds) : rn (k+2) 3 [.val d] = some (.ret (.val (.bl (isV d))) [.val d]) := by
  rcases h with h | h
  · rw [h.v, is_val k h]
  · rw [odd_v h, odd_val k h]
theorem asBls_m (f : D → Bool) : ∀ ds : List D, asBls (ds.map fun d => .bl (f d)) = some (ds.map f)
  | [] => rfl
  | d :: ds => by simp [evSs, evS, evE, evEs, evB, evC, evO, evP, evI, callD, argSl, argSls, bors, wb, frz, frzs, sees, R.see, lockS, unlockS, asgS, asgR, retR, setD, asgT, unlockO, backA, endF, nIf, nIfs, isAnd, truD, RD.r, binD, cmpD, biD, ixD, Mn.Loc, keyD, meD, recv, gtD, apD, eq_ss, eq_ii, eq_is, eq_si, ok_b, ok_t, bt, tb, in_b, in_t, in_i, gd0, gd1, gd2, gd3, is_NoneType_int, is_NoneType_bool, is_NoneType_str, is_NoneType_list, is_NoneType_tuple, is_bool_int, is_bool_bool, is_bool_str, is_bool_list, is_bool_tuple, is_int_int, is_int_bool, is_int_str, is_int_list, is_int_tuple, is_str_int, is_str_bool, is_str_str, is_str_list, is_str_tuple, is_list_int, is_list_bool, is_list_str, is_list_list, is_list_tuple, is_tuple_int, is_tuple_bool, is_tuple_str, is_tuple_list, is_tuple_tuple, is_dict_int, is_dict_bool, is_dict_str, is_dict_list, is_dict_tuple, isiDs, L2.atI, L2.ixN, big, asBls, asBls_m f ds]
theorem levels_own (k : Nat) {ds : List D} (h : ∀ d ∈ ds, Th d) (l : ds.length < 64) : rn (k+3) 15 [.own ds] = some (.ret (.new (L ds)) [.own ds]) := by
  simp [evSs, evS, evE, evEs, evB, evC, evO, evP, evI, callD, argSl, argSls, bors, wb, frz, frzs, sees, R.see, lockS, unlockS, asgS, asgR, retR, setD, asgT, unlockO, backA, endF, nIf, nIfs, isAnd, truD, RD.r, binD, cmpD, biD, ixD, Mn.Loc, keyD, meD, recv, gtD, apD, eq_ss, eq_ii, eq_is, eq_si, ok_b, ok_t, bt, tb, in_b, in_t, in_i, gd0, gd1, gd2, gd3, is_NoneType_int, is_NoneType_bool, is_NoneType_str, is_NoneType_list, is_NoneType_tuple, is_bool_int, is_bool_bool, is_bool_str, is_bool_list, is_bool_tuple, is_int_int, is_int_bool, is_int_str, is_int_list, is_int_tuple, is_str_int, is_str_bool, is_str_str, is_str_list, is_str_tuple, is_list_int, is_list_bool, is_list_str, is_list_list, is_list_tuple, is_tuple_int, is_tuple_bool, is_tuple_str, is_tuple_list, is_tuple_tuple, is_dict_int, is_dict_bool, is_dict_str, is_dict_list, is_dict_tuple, isiDs, L2.atI, L2.ixN, big, fn15, b25, fn2, b12]
  rw [lc_eq (fun _ => true) (fun d => .bl (isV d)) .un rfl (fun d hd => by simp [evSs, evS, evE, evEs, evB, evC, evO, evP, evI, callD, argSl, argSls, bors, wb, frz, frzs, sees, R.see, lockS, unlockS, asgS, asgR, retR, setD, asgT, unlockO, backA, endF, nIf, nIfs, isAnd, truD, RD.r, binD, cmpD, biD, ixD, Mn.Loc, keyD, meD, recv, gtD, apD, eq_ss, eq_ii, eq_is, eq_si, ok_b, ok_t, bt, tb, in_b, in_t, in_i, gd0, gd1, gd2, gd3, is_NoneType_int, is_NoneType_bool, is_NoneType_str, is_NoneType_list, is_NoneType_tuple, is_bool_int, is_bool_bool, is_bool_str, is_bool_list, is_bool_tuple, is_int_int, is_int_bool, is_int_str, is_int_list, is_int_tuple, is_str_int, is_str_bool, is_str_str, is_str_list, is_str_tuple, is_list_int, is_list_bool, is_list_str, is_list_list, is_list_tuple, is_tuple_int, is_tuple_bool, is_tuple_str, is_tuple_list, is_tuple_tuple, is_dict_int, is_dict_bool, is_dict_str, is_dict_list, is_dict_tuple, isiDs, L2.atI, L2.ixN, big, lpC]) (fun d hd _ => by simp [evSs, evS, evE, evEs, evB, evC, evO, evP, evI, callD, argSl, argSls, bors, wb, frz, frzs, sees, R.see, lockS, unlockS, asgS, asgR, retR, setD, asgT, unlockO, backA, endF, nIf, nIfs, isAnd, truD, RD.r, binD, cmpD, biD, ixD, Mn.Loc, keyD, meD, recv, gtD, apD, eq_ss, eq_ii, eq_is, eq_si, ok_b, ok_t, bt, tb, in_b, in_t, in_i, gd0, gd1, gd2, gd3, is_NoneType_int, is_NoneType_bool, is_NoneType_str, is_NoneType_list, is_NoneType_tuple, is_bool_int, is_bool_bool, is_bool_str, is_bool_list, is_bool_tuple, is_int_int, is_int_bool, is_int_str, is_int_list, is_int_tuple, is_str_int, is_str_bool, is_str_str, is_str_list, is_str_tuple, is_list_int, is_list_bool, is_list_str, is_list_list, is_list_tuple, is_tuple_int, is_tuple_bool, is_tuple_str, is_tuple_list, is_tuple_tuple, is_dict_int, is_dict_bool, is_dict_str, is_dict_list, is_dict_tuple, isiDs, L2.atI, L2.ixN, big, lpE, vv k (.inl (h d hd))]) (by simp [evSs, evS, evE, evEs, evB, evC, evO, evP, evI, callD, argSl, argSls, bors, wb, frz, frzs, sees, R.see, lockS, unlockS, asgS, asgR, retR, setD, asgT, unlockO, backA, endF, nIf, nIfs, isAnd, truD, RD.r, binD, cmpD, biD, ixD, Mn.Loc, keyD, meD, recv, gtD, apD, eq_ss, eq_ii, eq_is, eq_si, ok_b, ok_t, bt, tb, in_b, in_t, in_i, gd0, gd1, gd2, gd3, is_NoneType_int, is_NoneType_bool, is_NoneType_str, is_NoneType_list, is_NoneType_tuple, is_bool_int, is_bool_bool, is_bool_str, is_bool_list, is_bool_tuple, is_int_int, is_int_bool, is_int_str, is_int_list, is_int_tuple, is_str_int, is_str_bool, is_str_str, is_str_list, is_str_tuple, is_list_int, is_list_bool, is_list_str, is_list_list, is_list_tuple, is_tuple_int, is_tuple_bool, is_tuple_str, is_tuple_list, is_tuple_tuple, is_dict_int, is_dict_bool, is_dict_str, is_dict_list, is_dict_tuple, isiDs, L2.atI, L2.ixN, big]; omega)]
  have e : (ds.all fun a => isV a) = true := List.all_eq_true.mpr fun d hd => (h d hd).v
  simp [evSs, evS, evE, evEs, evB, evC, evO, evP, evI, callD, argSl, argSls, bors, wb, frz, frzs, sees, R.see, lockS, unlockS, asgS, asgR, retR, setD, asgT, unlockO, backA, endF, nIf, nIfs, isAnd, truD, RD.r, binD, cmpD, biD, ixD, Mn.Loc, keyD, meD, recv, gtD, apD, eq_ss, eq_ii, eq_is, eq_si, ok_b, ok_t, bt, tb, in_b, in_t, in_i, gd0, gd1, gd2, gd3, is_NoneType_int, is_NoneType_bool, is_NoneType_str, is_NoneType_list, is_NoneType_tuple, is_bool_int, is_bool_bool, is_bool_str, is_bool_list, is_bool_tuple, is_int_int, is_int_bool, is_int_str, is_int_list, is_int_tuple, is_str_int, is_str_bool, is_str_str, is_str_list, is_str_tuple, is_list_int, is_list_bool, is_list_str, is_list_list, is_list_tuple, is_tuple_int, is_tuple_bool, is_tuple_str, is_tuple_list, is_tuple_tuple, is_dict_int, is_dict_bool, is_dict_str, is_dict_list, is_dict_tuple, isiDs, L2.atI, L2.ixN, big, asBls_m, e, ints_own k h l]
theorem levels_tup (k : Nat) {ds : List D} (h : ∀ d ∈ ds, Th d) (l : ds.length < 64) : rn (k+3) 15 [.val (.tup ds)] = some (.ret (.new (L ds)) [.val (.tup ds)]) := by
  simp [evSs, evS, evE, evEs, evB, evC, evO, evP, evI, callD, argSl, argSls, bors, wb, frz, frzs, sees, R.see, lockS, unlockS, asgS, asgR, retR, setD, asgT, unlockO, backA, endF, nIf, nIfs, isAnd, truD, RD.r, binD, cmpD, biD, ixD, Mn.Loc, keyD, meD, recv, gtD, apD, eq_ss, eq_ii, eq_is, eq_si, ok_b, ok_t, bt, tb, in_b, in_t, in_i, gd0, gd1, gd2, gd3, is_NoneType_int, is_NoneType_bool, is_NoneType_str, is_NoneType_list, is_NoneType_tuple, is_bool_int, is_bool_bool, is_bool_str, is_bool_list, is_bool_tuple, is_int_int, is_int_bool, is_int_str, is_int_list, is_int_tuple, is_str_int, is_str_bool, is_str_str, is_str_list, is_str_tuple, is_list_int, is_list_bool, is_list_str, is_list_list, is_list_tuple, is_tuple_int, is_tuple_bool, is_tuple_str, is_tuple_list, is_tuple_tuple, is_dict_int, is_dict_bool, is_dict_str, is_dict_list, is_dict_tuple, isiDs, L2.atI, L2.ixN, big, fn15, b25, fn2, b12]
  rw [lc_eq (fun _ => true) (fun d => .bl (isV d)) .un rfl (fun d hd => by simp [evSs, evS, evE, evEs, evB, evC, evO, evP, evI, callD, argSl, argSls, bors, wb, frz, frzs, sees, R.see, lockS, unlockS, asgS, asgR, retR, setD, asgT, unlockO, backA, endF, nIf, nIfs, isAnd, truD, RD.r, binD, cmpD, biD, ixD, Mn.Loc, keyD, meD, recv, gtD, apD, eq_ss, eq_ii, eq_is, eq_si, ok_b, ok_t, bt, tb, in_b, in_t, in_i, gd0, gd1, gd2, gd3, is_NoneType_int, is_NoneType_bool, is_NoneType_str, is_NoneType_list, is_NoneType_tuple, is_bool_int, is_bool_bool, is_bool_str, is_bool_list, is_bool_tuple, is_int_int, is_int_bool, is_int_str, is_int_list, is_int_tuple, is_str_int, is_str_bool, is_str_str, is_str_list, is_str_tuple, is_list_int, is_list_bool, is_list_str, is_list_list, is_list_tuple, is_tuple_int, is_tuple_bool, is_tuple_str, is_tuple_list, is_tuple_tuple, is_dict_int, is_dict_bool, is_dict_str, is_dict_list, is_dict_tuple, isiDs, L2.atI, L2.ixN, big, lpC]) (fun d hd _ => by simp [evSs, evS, evE, evEs, evB, evC, evO, evP, evI, callD, argSl, argSls, bors, wb, frz, frzs, sees, R.see, lockS, unlockS, asgS, asgR, retR, setD, asgT, unlockO, backA, endF, nIf, nIfs, isAnd, truD, RD.r, binD, cmpD, biD, ixD, Mn.Loc, keyD, meD, recv, gtD, apD, eq_ss, eq_ii, eq_is, eq_si, ok_b, ok_t, bt, tb, in_b, in_t, in_i, gd0, gd1, gd2, gd3, is_NoneType_int, is_NoneType_bool, is_NoneType_str, is_NoneType_list, is_NoneType_tuple, is_bool_int, is_bool_bool, is_bool_str, is_bool_list, is_bool_tuple, is_int_int, is_int_bool, is_int_str, is_int_list, is_int_tuple, is_str_int, is_str_bool, is_str_str, is_str_list, is_str_tuple, is_list_int, is_list_bool, is_list_str, is_list_list, is_list_tuple, is_tuple_int, is_tuple_bool, is_tuple_str, is_tuple_list, is_tuple_tuple, is_dict_int, is_dict_bool, is_dict_str, is_dict_list, is_dict_tuple, isiDs, L2.atI, L2.ixN, big, lpE, vv k (.inl (h d hd))]) (by simp [evSs, evS, evE, evEs, evB, evC, evO, evP, evI, callD, argSl, argSls, bors, wb, frz, frzs, sees, R.see, lockS, unlockS, asgS, asgR, retR, setD, asgT, unlockO, backA, endF, nIf, nIfs, isAnd, truD, RD.r, binD, cmpD, biD, ixD, Mn.Loc, keyD, meD, recv, gtD, apD, eq_ss, eq_ii, eq_is, eq_si, ok_b, ok_t, bt, tb, in_b, in_t, in_i, gd0, gd1, gd2, gd3, is_NoneType_int, is_NoneType_bool, is_NoneType_str, is_NoneType_list, is_NoneType_tuple, is_bool_int, is_bool_bool, is_bool_str, is_bool_list, is_bool_tuple, is_int_int, is_int_bool, is_int_str, is_int_list, is_int_tuple, is_str_int, is_str_bool, is_str_str, is_str_list, is_str_tuple, is_list_int, is_list_bool, is_list_str, is_list_list, is_list_tuple, is_tuple_int, is_tuple_bool, is_tuple_str, is_tuple_list, is_tuple_tuple, is_dict_int, is_dict_bool, is_dict_str, is_dict_list, is_dict_tuple, isiDs, L2.atI, L2.ixN, big]; omega)]
  have e : (ds.all fun a => isV a) = true := List.all_eq_true.mpr fun d hd => (h d hd).v
  simp [evSs, evS, evE, evEs, evB, evC, evO, evP, evI, callD, argSl, argSls, bors, wb, frz, frzs, sees, R.see, lockS, unlockS, asgS, asgR, retR, setD, asgT, unlockO, backA, endF, nIf, nIfs, isAnd, truD, RD.r, binD, cmpD, biD, ixD, Mn.Loc, keyD, meD, recv, gtD, apD, eq_ss, eq_ii, eq_is, eq_si, ok_b, ok_t, bt, tb, in_b, in_t, in_i, gd0, gd1, gd2, gd3, is_NoneType_int, is_NoneType_bool, is_NoneType_str, is_NoneType_list, is_NoneType_tuple, is_bool_int, is_bool_bool, is_bool_str, is_bool_list, is_bool_tuple, is_int_int, is_int_bool, is_int_str, is_int_list, is_int_tuple, is_str_int, is_str_bool, is_str_str, is_str_list, is_str_tuple, is_list_int, is_list_bool, is_list_str, is_list_list, is_list_tuple, is_tuple_int, is_tuple_bool, is_tuple_str, is_tuple_list, is_tuple_tuple, is_dict_int, is_dict_bool, is_dict_str, is_dict_list, is_dict_tuple, isiDs, L2.atI, L2.ixN, big, asBls_m, e, ints_tup k h l]
theorem wrong_lst (k : Nat) {ds : List D} (h : ∀ d ∈ ds, Th d ∨ d ∈ odds) (ho : ∃ d ∈ ds, d ∈ odds) (l : ds.length < 64) : rn (k+3) 15 [.val (.lst ds)] = some (.exc 1 (.lst ds) [.val (.lst ds)]) := by
  simp [evSs, evS, evE, evEs, evB, evC, evO, evP, evI, callD, argSl, argSls, bors, wb, frz, frzs, sees, R.see, lockS, unlockS, asgS, asgR, retR, setD, asgT, unlockO, backA, endF, nIf, nIfs, isAnd, truD, RD.r, binD, cmpD, biD, ixD, Mn.Loc, keyD, meD, recv, gtD, apD, eq_ss, eq_ii, eq_is, eq_si, ok_b, ok_t, bt, tb, in_b, in_t, in_i, gd0, gd1, gd2, gd3, is_NoneType_int, is_NoneType_bool, is_NoneType_str, is_NoneType_list, is_NoneType_tuple, is_bool_int, is_bool_bool, is_bool_str, is_bool_list, is_bool_tuple, is_int_int, is_int_bool, is_int_str, is_int_list, is_int_tuple, is_str_int, is_str_bool, is_str_str, is_str_list, is_str_tuple, is_list_int, is_list_bool, is_list_str, is_list_list, is_list_tuple, is_tuple_int, is_tuple_bool, is_tuple_str, is_tuple_list, is_tuple_tuple, is_dict_int, is_dict_bool, is_dict_str, is_dict_list, is_dict_tuple, isiDs, L2.atI, L2.ixN, big, fn15, b25, fn2, b12]
  rw [lc_eq (fun _ => true) (fun d => .bl (isV d)) .un rfl (fun d hd => by simp [evSs, evS, evE, evEs, evB, evC, evO, evP, evI, callD, argSl, argSls, bors, wb, frz, frzs, sees, R.see, lockS, unlockS, asgS, asgR, retR, setD, asgT, unlockO, backA, endF, nIf, nIfs, isAnd, truD, RD.r, binD, cmpD, biD, ixD, Mn.Loc, keyD, meD, recv, gtD, apD, eq_ss, eq_ii, eq_is, eq_si, ok_b, ok_t, bt, tb, in_b, in_t, in_i, gd0, gd1, gd2, gd3, is_NoneType_int, is_NoneType_bool, is_NoneType_str, is_NoneType_list, is_NoneType_tuple, is_bool_int, is_bool_bool, is_bool_str, is_bool_list, is_bool_tuple, is_int_int, is_int_bool, is_int_str, is_int_list, is_int_tuple, is_str_int, is_str_bool, is_str_str, is_str_list, is_str_tuple, is_list_int, is_list_bool, is_list_str, is_list_list, is_list_tuple, is_tuple_int, is_tuple_bool, is_tuple_str, is_tuple_list, is_tuple_tuple, is_dict_int, is_dict_bool, is_dict_str, is_dict_list, is_dict_tuple, isiDs, L2.atI, L2.ixN, big, lpC]) (fun d hd _ => by simp [evSs, evS, evE, evEs, evB, evC, evO, evP, evI, callD, argSl, argSls, bors, wb, frz, frzs, sees, R.see, lockS, unlockS, asgS, asgR, retR, setD, asgT, unlockO, backA, endF, nIf, nIfs, isAnd, truD, RD.r, binD, cmpD, biD, ixD, Mn.Loc, keyD, meD, recv, gtD, apD, eq_ss, eq_ii, eq_is, eq_si, ok_b, ok_t, bt, tb, in_b, in_t, in_i, gd0, gd1, gd2, gd3, is_NoneType_int, is_NoneType_bool, is_NoneType_str, is_NoneType_list, is_NoneType_tuple, is_bool_int, is_bool_bool, is_bool_str, is_bool_list, is_bool_tuple, is_int_int, is_int_bool, is_int_str, is_int_list, is_int_tuple, is_str_int, is_str_bool, is_str_str, is_str_list, is_str_tuple, is_list_int, is_list_bool, is_list_str, is_list_list, is_list_tuple, is_tuple_int, is_tuple_bool, is_tuple_str, is_tuple_list, is_tuple_tuple, is_dict_int, is_dict_bool, is_dict_str, is_dict_list, is_dict_tuple, isiDs, L2.atI, L2.ixN, big, lpE, vv k (h d hd)]) (by simp [evSs, evS, evE, evEs, evB, evC, evO, evP, evI, callD, argSl, argSls, bors, wb, frz, frzs, sees, R.see, lockS, unlockS, asgS, asgR, retR, setD, asgT, unlockO, backA, endF, nIf, nIfs, isAnd, truD, RD.r, binD, cmpD, biD, ixD, Mn.Loc, keyD, meD, recv, gtD, apD, eq_ss, eq_ii, eq_is, eq_si, ok_b, ok_t, bt, tb, in_b, in_t, in_i, gd0, gd1, gd2, gd3, is_NoneType_int, is_NoneType_bool, is_NoneType_str, is_NoneType_list, is_NoneType_tuple, is_bool_int, is_bool_bool, is_bool_str, is_bool_list, is_bool_tuple, is_int_int, is_int_bool, is_int_str, is_int_list, is_int_tuple, is_str_int, is_str_bool, is_str_str, is_str_list, is_str_tuple, is_list_int, is_list_bool, is_list_str, is_list_list, is_list_tuple, is_tuple_int, is_tuple_bool, is_tuple_str, is_tuple_list, is_tuple_tuple, is_dict_int, is_dict_bool, is_dict_str, is_dict_list, is_dict_tuple, isiDs, L2.atI, L2.ixN, big]; omega)]
  have e : (ds.all fun a => isV a) = false := by
    obtain ⟨d, hd, o⟩ := ho
    exact List.all_eq_false.mpr ⟨d, hd, by simp [evSs, evS, evE, evEs, evB, evC, evO, evP, evI, callD, argSl, argSls, bors, wb, frz, frzs, sees, R.see, lockS, unlockS, asgS, asgR, retR, setD, asgT, unlockO, backA, endF, nIf, nIfs, isAnd, truD, RD.r, binD, cmpD, biD, ixD, Mn.Loc, keyD, meD, recv, gtD, apD, eq_ss, eq_ii, eq_is, eq_si, ok_b, ok_t, bt, tb, in_b, in_t, in_i, gd0, gd1, gd2, gd3, is_NoneType_int, is_NoneType_bool, is_NoneType_str, is_NoneType_list, is_NoneType_tuple, is_bool_int, is_bool_bool, is_bool_str, is_bool_list, is_bool_tuple, is_int_int, is_int_bool, is_int_str, is_int_list, is_int_tuple, is_str_int, is_str_bool, is_str_str, is_str_list, is_str_tuple, is_list_int, is_list_bool, is_list_str, is_list_list, is_list_tuple, is_tuple_int, is_tuple_bool, is_tuple_str, is_tuple_list, is_tuple_tuple, is_dict_int, is_dict_bool, is_dict_str, is_dict_list, is_dict_tuple, isiDs, L2.atI, L2.ixN, big, odd_v o]⟩
  simp [evSs, evS, evE, evEs, evB, evC, evO, evP, evI, callD, argSl, argSls, bors, wb, frz, frzs, sees, R.see, lockS, unlockS, asgS, asgR, retR, setD, asgT, unlockO, backA, endF, nIf, nIfs, isAnd, truD, RD.r, binD, cmpD, biD, ixD, Mn.Loc, keyD, meD, recv, gtD, apD, eq_ss, eq_ii, eq_is, eq_si, ok_b, ok_t, bt, tb, in_b, in_t, in_i, gd0, gd1, gd2, gd3, is_NoneType_int, is_NoneType_bool, is_NoneType_str, is_NoneType_list, is_NoneType_tuple, is_bool_int, is_bool_bool, is_bool_str, is_bool_list, is_bool_tuple, is_int_int, is_int_bool, is_int_str, is_int_list, is_int_tuple, is_str_int, is_str_bool, is_str_str, is_str_list, is_str_tuple, is_list_int, is_list_bool, is_list_str, is_list_list, is_list_tuple, is_tuple_int, is_tuple_bool, is_tuple_str, is_tuple_list, is_tuple_tuple, is_dict_int, is_dict_bool, is_dict_str, is_dict_list, is_dict_tuple, isiDs, L2.atI, L2.ixN, big, asBls_m, e]
theorem wrong_tup (k : Nat) {ds : List D} (h : ∀ d ∈ ds, Th d ∨ d ∈ odds) (ho : ∃ d ∈ ds, d ∈ odds) (l : ds.length < 64) : rn (k+3) 15 [.val (.tup ds)] = some (.exc 1 (.tup ds) [.val (.tup ds)]) := by
  simp [evSs, evS, evE, evEs, evB, evC, evO, evP, evI, callD, argSl, argSls, bors, wb, frz, frzs, sees, R.see, lockS, unlockS, asgS, asgR, retR, setD, asgT, unlockO, backA, endF, nIf, nIfs, isAnd, truD, RD.r, binD, cmpD, biD, ixD, Mn.Loc, keyD, meD, recv, gtD, apD, eq_ss, eq_ii, eq_is, eq_si, ok_b, ok_t, bt, tb, in_b, in_t, in_i, gd0, gd1, gd2, gd3, is_NoneType_int, is_NoneType_bool, is_NoneType_str, is_NoneType_list, is_NoneType_tuple, is_bool_int, is_bool_bool, is_bool_str, is_bool_list, is_bool_tuple, is_int_int, is_int_bool, is_int_str, is_int_list, is_int_tuple, is_str_int, is_str_bool, is_str_str, is_str_list, is_str_tuple, is_list_int, is_list_bool, is_list_str, is_list_list, is_list_tuple, is_tuple_int, is_tuple_bool, is_tuple_str, is_tuple_list, is_tuple_tuple, is_dict_int, is_dict_bool, is_dict_str, is_dict_list, is_dict_tuple, isiDs, L2.atI, L2.ixN, big, fn15, b25, fn2, b12]
  rw [lc_eq (fun _ => true) (fun d => .bl (isV d)) .un rfl (fun d hd => by simp [evSs, evS, evE, evEs, evB, evC, evO, evP, evI, callD, argSl, argSls, bors, wb, frz, frzs, sees, R.see, lockS, unlockS, asgS, asgR, retR, setD, asgT, unlockO, backA, endF, nIf, nIfs, isAnd, truD, RD.r, binD, cmpD, biD, ixD, Mn.Loc, keyD, meD, recv, gtD, apD, eq_ss, eq_ii, eq_is, eq_si, ok_b, ok_t, bt, tb, in_b, in_t, in_i, gd0, gd1, gd2, gd3, is_NoneType_int, is_NoneType_bool, is_NoneType_str, is_NoneType_list, is_NoneType_tuple, is_bool_int, is_bool_bool, is_bool_str, is_bool_list, is_bool_tuple, is_int_int, is_int_bool, is_int_str, is_int_list, is_int_tuple, is_str_int, is_str_bool, is_str_str, is_str_list, is_str_tuple, is_list_int, is_list_bool, is_list_str, is_list_list, is_list_tuple, is_tuple_int, is_tuple_bool, is_tuple_str, is_tuple_list, is_tuple_tuple, is_dict_int, is_dict_bool, is_dict_str, is_dict_list, is_dict_tuple, isiDs, L2.atI, L2.ixN, big, lpC]) (fun d hd _ => by simp [evSs, evS, evE, evEs, evB, evC, evO, evP, evI, callD, argSl, argSls, bors, wb, frz, frzs, sees, R.see, lockS, unlockS, asgS, asgR, retR, setD, asgT, unlockO, backA, endF, nIf, nIfs, isAnd, truD, RD.r, binD, cmpD, biD, ixD, Mn.Loc, keyD, meD, recv, gtD, apD, eq_ss, eq_ii, eq_is, eq_si, ok_b, ok_t, bt, tb, in_b, in_t, in_i, gd0, gd1, gd2, gd3, is_NoneType_int, is_NoneType_bool, is_NoneType_str, is_NoneType_list, is_NoneType_tuple, is_bool_int, is_bool_bool, is_bool_str, is_bool_list, is_bool_tuple, is_int_int, is_int_bool, is_int_str, is_int_list, is_int_tuple, is_str_int, is_str_bool, is_str_str, is_str_list, is_str_tuple, is_list_int, is_list_bool, is_list_str, is_list_list, is_list_tuple, is_tuple_int, is_tuple_bool, is_tuple_str, is_tuple_list, is_tuple_tuple, is_dict_int, is_dict_bool, is_dict_str, is_dict_list, is_dict_tuple, isiDs, L2.atI, L2.ixN, big, lpE, vv k (h d hd)]) (by simp [evSs, evS, evE, evEs, evB, evC, evO, evP, evI, callD, argSl, argSls, bors, wb, frz, frzs, sees, R.see, lockS, unlockS, asgS, asgR, retR, setD, asgT, unlockO, backA, endF, nIf, nIfs, isAnd, truD, RD.r, binD, cmpD, biD, ixD, Mn.Loc, keyD, meD, recv, gtD, apD, eq_ss, eq_ii, eq_is, eq_si, ok_b, ok_t, bt, tb, in_b, in_t, in_i, gd0, gd1, gd2, gd3, is_NoneType_int, is_NoneType_bool, is_NoneType_str, is_NoneType_list, is_NoneType_tuple, is_bool_int, is_bool_bool, is_bool_str, is_bool_list, is_bool_tuple, is_int_int, is_int_bool, is_int_str, is_int_list, is_int_tuple, is_str_int, is_str_bool, is_str_str, is_str_list, is_str_tuple, is_list_int, is_list_bool, is_list_str, is_list_list, is_list_tuple, is_tuple_int, is_tuple_bool, is_tuple_str, is_tuple_list, is_tuple_tuple, is_dict_int, is_dict_bool, is_dict_str, is_dict_list, is_dict_tuple, isiDs, L2.atI, L2.ixN, big]; omega)]
  have e : (ds.all fun a => isV a) = false := by
    obtain ⟨d, hd, o⟩ := ho
    exact List.all_eq_false.mpr ⟨d, hd, by simp [evSs, evS, evE, evEs, evB, evC, evO, evP, evI, callD, argSl, argSls, bors, wb, frz, frzs, sees, R.see, lockS, unlockS, asgS, asgR, retR, setD, asgT, unlockO, backA, endF, nIf, nIfs, isAnd, truD, RD.r, binD, cmpD, biD, ixD, Mn.Loc, keyD, meD, recv, gtD, apD, eq_ss, eq_ii, eq_is, eq_si, ok_b, ok_t, bt, tb, in_b, in_t, in_i, gd0, gd1, gd2, gd3, is_NoneType_int, is_NoneType_bool, is_NoneType_str, is_NoneType_list, is_NoneType_tuple, is_bool_int, is_bool_bool, is_bool_str, is_bool_list, is_bool_tuple, is_int_int, is_int_bool, is_int_str, is_int_list, is_int_tuple, is_str_int, is_str_bool, is_str_str, is_str_list, is_str_tuple, is_list_int, is_list_bool, is_list_str, is_list_list, is_list_tuple, is_tuple_int, is_tuple_bool, is_tuple_str, is_tuple_list, is_tuple_tuple, is_dict_int, is_dict_bool, is_dict_str, is_dict_list, is_dict_tuple, isiDs, L2.atI, L2.ixN, big, odd_v o]⟩
  simp [evSs, evS, evE, evEs, evB, evC, evO, evP, evI, callD, argSl, argSls, bors, wb, frz, frzs, sees, R.see, lockS, unlockS, asgS, asgR, retR, setD, asgT, unlockO, backA, endF, nIf, nIfs, isAnd, truD, RD.r, binD, cmpD, biD, ixD, Mn.Loc, keyD, meD, recv, gtD, apD, eq_ss, eq_ii, eq_is, eq_si, ok_b, ok_t, bt, tb, in_b, in_t, in_i, gd0, gd1, gd2, gd3, is_NoneType_int, is_NoneType_bool, is_NoneType_str, is_NoneType_list, is_NoneType_tuple, is_bool_int, is_bool_bool, is_bool_str, is_bool_list, is_bool_tuple, is_int_int, is_int_bool, is_int_str, is_int_list, is_int_tuple, is_str_int, is_str_bool, is_str_str, is_str_list, is_str_tuple, is_list_int, is_list_bool, is_list_str, is_list_list, is_list_tuple, is_tuple_int, is_tuple_bool, is_tuple_str, is_tuple_list, is_tuple_tuple, is_dict_int, is_dict_bool, is_dict_str, is_dict_list, is_dict_tuple, isiDs, L2.atI, L2.ixN, big, asBls_m, e]
def nol : D → Bool
  | .non => true
  | .bl _ => true
  | .int _ => true
  | .str _ => true
  | .dct _ => true
  | _ => false
theorem wrong_no (k : Nat) {d : D} (h : nol d = true) : rn (k+2) 15 [.val d] = some (.exc 1 d [.val d]) := by
  cases d <;> first | (simp [evSs, evS, evE, evEs, evB, evC, evO, evP, evI, callD, argSl, argSls, bors, wb, frz, frzs, sees, R.see, lockS, unlockS, asgS, asgR, retR, setD, asgT, unlockO, backA, endF, nIf, nIfs, isAnd, truD, RD.r, binD, cmpD, biD, ixD, Mn.Loc, keyD, meD, recv, gtD, apD, eq_ss, eq_ii, eq_is, eq_si, ok_b, ok_t, bt, tb, in_b, in_t, in_i, gd0, gd1, gd2, gd3, is_NoneType_int, is_NoneType_bool, is_NoneType_str, is_NoneType_list, is_NoneType_tuple, is_bool_int, is_bool_bool, is_bool_str, is_bool_list, is_bool_tuple, is_int_int, is_int_bool, is_int_str, is_int_list, is_int_tuple, is_str_int, is_str_bool, is_str_str, is_str_list, is_str_tuple, is_list_int, is_list_bool, is_list_str, is_list_list, is_list_tuple, is_tuple_int, is_tuple_bool, is_tuple_str, is_tuple_list, is_tuple_tuple, is_dict_int, is_dict_bool, is_dict_str, is_dict_list, is_dict_tuple, isiDs, L2.atI, L2.ixN, big, nol] at h; done) | simp [evSs, evS, evE, evEs, evB, evC, evO, evP, evI, callD, argSl, argSls, bors, wb, frz, frzs, sees, R.see, lockS, unlockS, asgS, asgR, retR, setD, asgT, unlockO, backA, endF, nIf, nIfs, isAnd, truD, RD.r, binD, cmpD, biD, ixD, Mn.Loc, keyD, meD, recv, gtD, apD, eq_ss, eq_ii, eq_is, eq_si, ok_b, ok_t, bt, tb, in_b, in_t, in_i, gd0, gd1, gd2, gd3, is_NoneType_int, is_NoneType_bool, is_NoneType_str, is_NoneType_list, is_NoneType_tuple, is_bool_int, is_bool_bool, is_bool_str, is_bool_list, is_bool_tuple, is_int_int, is_int_bool, is_int_str, is_int_list, is_int_tuple, is_str_int, is_str_bool, is_str_str, is_str_list, is_str_tuple, is_list_int, is_list_bool, is_list_str, is_list_list, is_list_tuple, is_tuple_int, is_tuple_bool, is_tuple_str, is_tuple_list, is_tuple_tuple, is_dict_int, is_dict_bool, is_dict_str, is_dict_list, is_dict_tuple, isiDs, L2.atI, L2.ixN, big, fn15, b25, fn2, b12]
/-! the pot -/
structure Pot where
  a : Int
  b : Int
  ha : 0 ≤ a
  hb : 0 ≤ b
  hb2 : b < 2147483648
def Pot.w (p : Pot) : List D := [.int p.a, .int p.b]
def nb (p : Pot) : Int := (p.b * 48271 + 11213) % 2147483587
def dv (p : Pot) (m : Int) : Int := if 0 < p.a then p.a % m else (nb p * nb p) % 2147483549 / 13 % m
def dn (p : Pot) (m : Int) : Pot := if h : 0 < p.a ∧ 0 < m then ⟨p.a / m, p.b, Int.ediv_nonneg p.ha (by omega), p.hb, p.hb2⟩ else ⟨p.a, nb p, p.ha, by unfold nb; omega, by unfold nb; omega⟩
theorem dv_r (p : Pot) {m : Int} (h : 0 < m) : 0 ≤ dv p m ∧ dv p m < m := by
  unfold dv
  split
  · exact ⟨Int.emod_nonneg _ (by omega), Int.emod_lt_of_pos _ h⟩
  · exact ⟨Int.emod_nonneg _ (by omega), Int.emod_lt_of_pos _ h⟩
theorem draw (k : Nat) (p : Pot) {m : Int} (h : 0 < m) (h2 : m < 1073741824) : rn (k+1) 17 [.own p.w, .val (.int m)] = some (.ret (.val (.int (dv p m))) [.own (dn p m).w, .val (.int m)]) := by
  have := p.hb
  have := p.hb2
  by_cases q : 0 < p.a
  · simp [evSs, evS, evE, evEs, evB, evC, evO, evP, evI, callD, argSl, argSls, bors, wb, frz, frzs, sees, R.see, lockS, unlockS, asgS, asgR, retR, setD, asgT, unlockO, backA, endF, nIf, nIfs, isAnd, truD, RD.r, binD, cmpD, biD, ixD, Mn.Loc, keyD, meD, recv, gtD, apD, eq_ss, eq_ii, eq_is, eq_si, ok_b, ok_t, bt, tb, in_b, in_t, in_i, gd0, gd1, gd2, gd3, is_NoneType_int, is_NoneType_bool, is_NoneType_str, is_NoneType_list, is_NoneType_tuple, is_bool_int, is_bool_bool, is_bool_str, is_bool_list, is_bool_tuple, is_int_int, is_int_bool, is_int_str, is_int_list, is_int_tuple, is_str_int, is_str_bool, is_str_str, is_str_list, is_str_tuple, is_list_int, is_list_bool, is_list_str, is_list_list, is_list_tuple, is_tuple_int, is_tuple_bool, is_tuple_str, is_tuple_list, is_tuple_tuple, is_dict_int, is_dict_bool, is_dict_str, is_dict_list, is_dict_tuple, isiDs, L2.atI, L2.ixN, big, fn17, b28, Pot.w, q, h, h2, dv, dn]
  · have b0 : 0 ≤ nb p := by unfold nb; omega
    have b1 : nb p < 2147483648 := by unfold nb; omega
    have c1 : -18446744073709551616 < p.b := by omega
    have c2 : p.b < 18446744073709551616 := by omega
    have c3 : -18446744073709551616 < nb p := by omega
    have c4 : nb p < 18446744073709551616 := by omega
    have e : nb p = (p.b * 48271 + 11213) % 2147483587 := rfl
    simp [evSs, evS, evE, evEs, evB, evC, evO, evP, evI, callD, argSl, argSls, bors, wb, frz, frzs, sees, R.see, lockS, unlockS, asgS, asgR, retR, setD, asgT, unlockO, backA, endF, nIf, nIfs, isAnd, truD, RD.r, binD, cmpD, biD, ixD, Mn.Loc, keyD, meD, recv, gtD, apD, eq_ss, eq_ii, eq_is, eq_si, ok_b, ok_t, bt, tb, in_b, in_t, in_i, gd0, gd1, gd2, gd3, is_NoneType_int, is_NoneType_bool, is_NoneType_str, is_NoneType_list, is_NoneType_tuple, is_bool_int, is_bool_bool, is_bool_str, is_bool_list, is_bool_tuple, is_int_int, is_int_bool, is_int_str, is_int_list, is_int_tuple, is_str_int, is_str_bool, is_str_str, is_str_list, is_str_tuple, is_list_int, is_list_bool, is_list_str, is_list_list, is_list_tuple, is_tuple_int, is_tuple_bool, is_tuple_str, is_tuple_list, is_tuple_tuple, is_dict_int, is_dict_bool, is_dict_str, is_dict_list, is_dict_tuple, isiDs, L2.atI, L2.ixN, big, fn17, b28, Pot.w, q, h, h2, dv, dn, c1, c2, c3, c4, ← e]
theorem pick (k : Nat) (p : Pot) {xs : List D} (h : xs ≠ []) (h2 : xs.length < 1073741824) : ∃ x ∈ xs, rn (k+2) 18 [.own p.w, .own xs] = some (.ret (.val x) [.own (dn p xs.length).w, .own xs]) := by
  have l : 0 < xs.length := List.length_pos_iff.mpr h
  have l1 : (0 : Int) < xs.length := by omega
  have l2 : (xs.length : Int) < 1073741824 := by omega
  obtain ⟨r1, r2⟩ := dv_r p l1
  have l3 : (dv p xs.length).toNat < xs.length := by omega
  refine ⟨xs[(dv p xs.length).toNat], List.getElem_mem l3, ?_⟩
  simp [evSs, evS, evE, evEs, evB, evC, evO, evP, evI, callD, argSl, argSls, bors, wb, frz, frzs, sees, R.see, lockS, unlockS, asgS, asgR, retR, setD, asgT, unlockO, backA, endF, nIf, nIfs, isAnd, truD, RD.r, binD, cmpD, biD, ixD, Mn.Loc, keyD, meD, recv, gtD, apD, eq_ss, eq_ii, eq_is, eq_si, ok_b, ok_t, bt, tb, in_b, in_t, in_i, gd0, gd1, gd2, gd3, is_NoneType_int, is_NoneType_bool, is_NoneType_str, is_NoneType_list, is_NoneType_tuple, is_bool_int, is_bool_bool, is_bool_str, is_bool_list, is_bool_tuple, is_int_int, is_int_bool, is_int_str, is_int_list, is_int_tuple, is_str_int, is_str_bool, is_str_str, is_str_list, is_str_tuple, is_list_int, is_list_bool, is_list_str, is_list_list, is_list_tuple, is_tuple_int, is_tuple_bool, is_tuple_str, is_tuple_list, is_tuple_tuple, is_dict_int, is_dict_bool, is_dict_str, is_dict_list, is_dict_tuple, isiDs, L2.atI, L2.ixN, big, fn18, b29, draw k p l1 l2, r1, r2, List.getElem?_eq_getElem l3]
end K11

-- P11e
set_option Elab.async false
set_option linter.all false
set_option maxRecDepth 100000
set_option maxHeartbeats 4000000
set_option autoImplicit false
namespace K11
open PySem Mn
theorem nbt : ¬ Str.ofString "bottom" = Str.ofString "top" := by decide +kernel
theorem ntb : ¬ Str.ofString "top" = Str.ofString "bottom" := by decide +kernel
theorem number (k : Nat) {d : D} (h : Th d) : rn (k+1) 19 [.val d] = some (.ret (.val (.int (num d))) [.val d]) := by
  cases h with
  | bot => simp [evSs, evS, evE, evEs, evB, evC, evO, evP, evI, callD, argSl, argSls, bors, wb, frz, frzs, sees, R.see, lockS, unlockS, asgS, asgR, retR, setD, asgT, unlockO, backA, endF, nIf, nIfs, isAnd, truD, RD.r, binD, cmpD, biD, ixD, Mn.Loc, keyD, meD, recv, gtD, apD, eq_ss, eq_ii, eq_is, eq_si, ok_b, ok_t, bt, tb, in_b, in_t, in_i, gd0, gd1, gd2, gd3, is_NoneType_int, is_NoneType_bool, is_NoneType_str, is_NoneType_list, is_NoneType_tuple, is_bool_int, is_bool_bool, is_bool_str, is_bool_list, is_bool_tuple, is_int_int, is_int_bool, is_int_str, is_int_list, is_int_tuple, is_str_int, is_str_bool, is_str_str, is_str_list, is_str_tuple, is_list_int, is_list_bool, is_list_str, is_list_list, is_list_tuple, is_tuple_int, is_tuple_bool, is_tuple_str, is_tuple_list, is_tuple_tuple, is_dict_int, is_dict_bool, is_dict_str, is_dict_list, is_dict_tuple, isiDs, L2.atI, L2.ixN, big, fn19, b30, putD, nbt, ntb, num]
  | top => simp [evSs, evS, evE, evEs, evB, evC, evO, evP, evI, callD, argSl, argSls, bors, wb, frz, frzs, sees, R.see, lockS, unlockS, asgS, asgR, retR, setD, asgT, unlockO, backA, endF, nIf, nIfs, isAnd, truD, RD.r, binD, cmpD, biD, ixD, Mn.Loc, keyD, meD, recv, gtD, apD, eq_ss, eq_ii, eq_is, eq_si, ok_b, ok_t, bt, tb, in_b, in_t, in_i, gd0, gd1, gd2, gd3, is_NoneType_int, is_NoneType_bool, is_NoneType_str, is_NoneType_list, is_NoneType_tuple, is_bool_int, is_bool_bool, is_bool_str, is_bool_list, is_bool_tuple, is_int_int, is_int_bool, is_int_str, is_int_list, is_int_tuple, is_str_int, is_str_bool, is_str_str, is_str_list, is_str_tuple, is_list_int, is_list_bool, is_list_str, is_list_list, is_list_tuple, is_tuple_int, is_tuple_bool, is_tuple_str, is_tuple_list, is_tuple_tuple, is_dict_int, is_dict_bool, is_dict_str, is_dict_list, is_dict_tuple, isiDs, L2.atI, L2.ixN, big, fn19, b30, putD, nbt, ntb, num]
  | int i h1 h2 => simp [evSs, evS, evE, evEs, evB, evC, evO, evP, evI, callD, argSl, argSls, bors, wb, frz, frzs, sees, R.see, lockS, unlockS, asgS, asgR, retR, setD, asgT, unlockO, backA, endF, nIf, nIfs, isAnd, truD, RD.r, binD, cmpD, biD, ixD, Mn.Loc, keyD, meD, recv, gtD, apD, eq_ss, eq_ii, eq_is, eq_si, ok_b, ok_t, bt, tb, in_b, in_t, in_i, gd0, gd1, gd2, gd3, is_NoneType_int, is_NoneType_bool, is_NoneType_str, is_NoneType_list, is_NoneType_tuple, is_bool_int, is_bool_bool, is_bool_str, is_bool_list, is_bool_tuple, is_int_int, is_int_bool, is_int_str, is_int_list, is_int_tuple, is_str_int, is_str_bool, is_str_str, is_str_list, is_str_tuple, is_list_int, is_list_bool, is_list_str, is_list_list, is_list_tuple, is_tuple_int, is_tuple_bool, is_tuple_str, is_tuple_list, is_tuple_tuple, is_dict_int, is_dict_bool, is_dict_str, is_dict_list, is_dict_tuple, isiDs, L2.atI, L2.ixN, big, fn19, b30, putD, nbt, ntb, num]
theorem shown (k : Nat) {d : D} (h : Th d) : rn (k+1) 20 [.val (.int (num d))] = some (.ret (.val d) [.val (.int (num d))]) := by
  cases h with
  | bot => simp [evSs, evS, evE, evEs, evB, evC, evO, evP, evI, callD, argSl, argSls, bors, wb, frz, frzs, sees, R.see, lockS, unlockS, asgS, asgR, retR, setD, asgT, unlockO, backA, endF, nIf, nIfs, isAnd, truD, RD.r, binD, cmpD, biD, ixD, Mn.Loc, keyD, meD, recv, gtD, apD, eq_ss, eq_ii, eq_is, eq_si, ok_b, ok_t, bt, tb, in_b, in_t, in_i, gd0, gd1, gd2, gd3, is_NoneType_int, is_NoneType_bool, is_NoneType_str, is_NoneType_list, is_NoneType_tuple, is_bool_int, is_bool_bool, is_bool_str, is_bool_list, is_bool_tuple, is_int_int, is_int_bool, is_int_str, is_int_list, is_int_tuple, is_str_int, is_str_bool, is_str_str, is_str_list, is_str_tuple, is_list_int, is_list_bool, is_list_str, is_list_list, is_list_tuple, is_tuple_int, is_tuple_bool, is_tuple_str, is_tuple_list, is_tuple_tuple, is_dict_int, is_dict_bool, is_dict_str, is_dict_list, is_dict_tuple, isiDs, L2.atI, L2.ixN, big, fn20, b31, putD, nbt, ntb, num]
  | top => simp [evSs, evS, evE, evEs, evB, evC, evO, evP, evI, callD, argSl, argSls, bors, wb, frz, frzs, sees, R.see, lockS, unlockS, asgS, asgR, retR, setD, asgT, unlockO, backA, endF, nIf, nIfs, isAnd, truD, RD.r, binD, cmpD, biD, ixD, Mn.Loc, keyD, meD, recv, gtD, apD, eq_ss, eq_ii, eq_is, eq_si, ok_b, ok_t, bt, tb, in_b, in_t, in_i, gd0, gd1, gd2, gd3, is_NoneType_int, is_NoneType_bool, is_NoneType_str, is_NoneType_list, is_NoneType_tuple, is_bool_int, is_bool_bool, is_bool_str, is_bool_list, is_bool_tuple, is_int_int, is_int_bool, is_int_str, is_int_list, is_int_tuple, is_str_int, is_str_bool, is_str_str, is_str_list, is_str_tuple, is_list_int, is_list_bool, is_list_str, is_list_list, is_list_tuple, is_tuple_int, is_tuple_bool, is_tuple_str, is_tuple_list, is_tuple_tuple, is_dict_int, is_dict_bool, is_dict_str, is_dict_list, is_dict_tuple, isiDs, L2.atI, L2.ixN, big, fn20, b31, putD, nbt, ntb, num]
  | int i h1 h2 =>
    have q := th_i h1 h2
    simp [evSs, evS, evE, evEs, evB, evC, evO, evP, evI, callD, argSl, argSls, bors, wb, frz, frzs, sees, R.see, lockS, unlockS, asgS, asgR, retR, setD, asgT, unlockO, backA, endF, nIf, nIfs, isAnd, truD, RD.r, binD, cmpD, biD, ixD, Mn.Loc, keyD, meD, recv, gtD, apD, eq_ss, eq_ii, eq_is, eq_si, ok_b, ok_t, bt, tb, in_b, in_t, in_i, gd0, gd1, gd2, gd3, is_NoneType_int, is_NoneType_bool, is_NoneType_str, is_NoneType_list, is_NoneType_tuple, is_bool_int, is_bool_bool, is_bool_str, is_bool_list, is_bool_tuple, is_int_int, is_int_bool, is_int_str, is_int_list, is_int_tuple, is_str_int, is_str_bool, is_str_str, is_str_list, is_str_tuple, is_list_int, is_list_bool, is_list_str, is_list_list, is_list_tuple, is_tuple_int, is_tuple_bool, is_tuple_str, is_tuple_list, is_tuple_tuple, is_dict_int, is_dict_bool, is_dict_str, is_dict_list, is_dict_tuple, isiDs, L2.atI, L2.ixN, big] at q
    have q1 : ¬ i = -10000000000000000000000000000000000000000000000000000000000000000 := by omega
    have q2 : ¬ i = 10000000000000000000000000000000000000000000000000000000000000000 := by omega
    have q3 : ¬ -10000000000000000000000000000000000000000000000000000000000000000 = i := by omega
    have q4 : ¬ 10000000000000000000000000000000000000000000000000000000000000000 = i := by omega
    simp [evSs, evS, evE, evEs, evB, evC, evO, evP, evI, callD, argSl, argSls, bors, wb, frz, frzs, sees, R.see, lockS, unlockS, asgS, asgR, retR, setD, asgT, unlockO, backA, endF, nIf, nIfs, isAnd, truD, RD.r, binD, cmpD, biD, ixD, Mn.Loc, keyD, meD, recv, gtD, apD, eq_ss, eq_ii, eq_is, eq_si, ok_b, ok_t, bt, tb, in_b, in_t, in_i, gd0, gd1, gd2, gd3, is_NoneType_int, is_NoneType_bool, is_NoneType_str, is_NoneType_list, is_NoneType_tuple, is_bool_int, is_bool_bool, is_bool_str, is_bool_list, is_bool_tuple, is_int_int, is_int_bool, is_int_str, is_int_list, is_int_tuple, is_str_int, is_str_bool, is_str_str, is_str_list, is_str_tuple, is_list_int, is_list_bool, is_list_str, is_list_list, is_list_tuple, is_tuple_int, is_tuple_bool, is_tuple_str, is_tuple_list, is_tuple_tuple, is_dict_int, is_dict_bool, is_dict_str, is_dict_list, is_dict_tuple, isiDs, L2.atI, L2.ixN, big, fn20, b31, putD, nbt, ntb, num, q1, q2, q3, q4]
def allI (xs : List D) : Prop := ∀ x ∈ xs, ∃ i, x = .int i
theorem allI_ok : ∀ {xs : List D}, allI xs → eqOks xs = true ∧ PyData.canLayAll0 (pys xs) = true ∧ PyData.depthAll (pys xs) = 0
  | [], _ => ⟨rfl, rfl, rfl⟩
  | x :: xs, h => by
    obtain ⟨i, rfl⟩ := h x (by simp [evSs, evS, evE, evEs, evB, evC, evO, evP, evI, callD, argSl, argSls, bors, wb, frz, frzs, sees, R.see, lockS, unlockS, asgS, asgR, retR, setD, asgT, unlockO, backA, endF, nIf, nIfs, isAnd, truD, RD.r, binD, cmpD, biD, ixD, Mn.Loc, keyD, meD, recv, gtD, apD, eq_ss, eq_ii, eq_is, eq_si, ok_b, ok_t, bt, tb, in_b, in_t, in_i, gd0, gd1, gd2, gd3, is_NoneType_int, is_NoneType_bool, is_NoneType_str, is_NoneType_list, is_NoneType_tuple, is_bool_int, is_bool_bool, is_bool_str, is_bool_list, is_bool_tuple, is_int_int, is_int_bool, is_int_str, is_int_list, is_int_tuple, is_str_int, is_str_bool, is_str_str, is_str_list, is_str_tuple, is_list_int, is_list_bool, is_list_str, is_list_list, is_list_tuple, is_tuple_int, is_tuple_bool, is_tuple_str, is_tuple_list, is_tuple_tuple, is_dict_int, is_dict_bool, is_dict_str, is_dict_list, is_dict_tuple, isiDs, L2.atI, L2.ixN, big])
    obtain ⟨h1, h2, h3⟩ := allI_ok (xs := xs) fun y hy => h y (by simp [evSs, evS, evE, evEs, evB, evC, evO, evP, evI, callD, argSl, argSls, bors, wb, frz, frzs, sees, R.see, lockS, unlockS, asgS, asgR, retR, setD, asgT, unlockO, backA, endF, nIf, nIfs, isAnd, truD, RD.r, binD, cmpD, biD, ixD, Mn.Loc, keyD, meD, recv, gtD, apD, eq_ss, eq_ii, eq_is, eq_si, ok_b, ok_t, bt, tb, in_b, in_t, in_i, gd0, gd1, gd2, gd3, is_NoneType_int, is_NoneType_bool, is_NoneType_str, is_NoneType_list, is_NoneType_tuple, is_bool_int, is_bool_bool, is_bool_str, is_bool_list, is_bool_tuple, is_int_int, is_int_bool, is_int_str, is_int_list, is_int_tuple, is_str_int, is_str_bool, is_str_str, is_str_list, is_str_tuple, is_list_int, is_list_bool, is_list_str, is_list_list, is_list_tuple, is_tuple_int, is_tuple_bool, is_tuple_str, is_tuple_list, is_tuple_tuple, is_dict_int, is_dict_bool, is_dict_str, is_dict_list, is_dict_tuple, isiDs, L2.atI, L2.ixN, big, hy])
    refine ⟨by simp [evSs, evS, evE, evEs, evB, evC, evO, evP, evI, callD, argSl, argSls, bors, wb, frz, frzs, sees, R.see, lockS, unlockS, asgS, asgR, retR, setD, asgT, unlockO, backA, endF, nIf, nIfs, isAnd, truD, RD.r, binD, cmpD, biD, ixD, Mn.Loc, keyD, meD, recv, gtD, apD, eq_ss, eq_ii, eq_is, eq_si, ok_b, ok_t, bt, tb, in_b, in_t, in_i, gd0, gd1, gd2, gd3, is_NoneType_int, is_NoneType_bool, is_NoneType_str, is_NoneType_list, is_NoneType_tuple, is_bool_int, is_bool_bool, is_bool_str, is_bool_list, is_bool_tuple, is_int_int, is_int_bool, is_int_str, is_int_list, is_int_tuple, is_str_int, is_str_bool, is_str_str, is_str_list, is_str_tuple, is_list_int, is_list_bool, is_list_str, is_list_list, is_list_tuple, is_tuple_int, is_tuple_bool, is_tuple_str, is_tuple_list, is_tuple_tuple, is_dict_int, is_dict_bool, is_dict_str, is_dict_list, is_dict_tuple, isiDs, L2.atI, L2.ixN, big, eqOks, D.eqOk, h1], by simp [evSs, evS, evE, evEs, evB, evC, evO, evP, evI, callD, argSl, argSls, bors, wb, frz, frzs, sees, R.see, lockS, unlockS, asgS, asgR, retR, setD, asgT, unlockO, backA, endF, nIf, nIfs, isAnd, truD, RD.r, binD, cmpD, biD, ixD, Mn.Loc, keyD, meD, recv, gtD, apD, eq_ss, eq_ii, eq_is, eq_si, ok_b, ok_t, bt, tb, in_b, in_t, in_i, gd0, gd1, gd2, gd3, is_NoneType_int, is_NoneType_bool, is_NoneType_str, is_NoneType_list, is_NoneType_tuple, is_bool_int, is_bool_bool, is_bool_str, is_bool_list, is_bool_tuple, is_int_int, is_int_bool, is_int_str, is_int_list, is_int_tuple, is_str_int, is_str_bool, is_str_str, is_str_list, is_str_tuple, is_list_int, is_list_bool, is_list_str, is_list_list, is_list_tuple, is_tuple_int, is_tuple_bool, is_tuple_str, is_tuple_list, is_tuple_tuple, is_dict_int, is_dict_bool, is_dict_str, is_dict_list, is_dict_tuple, isiDs, L2.atI, L2.ixN, big, pys, D.py, PyData.canLayAll0, PyData.canLay0, h2], by simp [evSs, evS, evE, evEs, evB, evC, evO, evP, evI, callD, argSl, argSls, bors, wb, frz, frzs, sees, R.see, lockS, unlockS, asgS, asgR, retR, setD, asgT, unlockO, backA, endF, nIf, nIfs, isAnd, truD, RD.r, binD, cmpD, biD, ixD, Mn.Loc, keyD, meD, recv, gtD, apD, eq_ss, eq_ii, eq_is, eq_si, ok_b, ok_t, bt, tb, in_b, in_t, in_i, gd0, gd1, gd2, gd3, is_NoneType_int, is_NoneType_bool, is_NoneType_str, is_NoneType_list, is_NoneType_tuple, is_bool_int, is_bool_bool, is_bool_str, is_bool_list, is_bool_tuple, is_int_int, is_int_bool, is_int_str, is_int_list, is_int_tuple, is_str_int, is_str_bool, is_str_str, is_str_list, is_str_tuple, is_list_int, is_list_bool, is_list_str, is_list_list, is_list_tuple, is_tuple_int, is_tuple_bool, is_tuple_str, is_tuple_list, is_tuple_tuple, is_dict_int, is_dict_bool, is_dict_str, is_dict_list, is_dict_tuple, isiDs, L2.atI, L2.ixN, big, pys, D.py, PyData.depthAll, PyData.depth, h3]⟩
theorem eq_nil {xs : List D} (h : allI xs) : eqD (.lst xs) (.lst []) = some (decide (xs = [])) := by
  obtain ⟨h1, h2, h3⟩ := allI_ok h
  have s : SeqAt.shaped (.list (pys xs)) = true := by simp [evSs, evS, evE, evEs, evB, evC, evO, evP, evI, callD, argSl, argSls, bors, wb, frz, frzs, sees, R.see, lockS, unlockS, asgS, asgR, retR, setD, asgT, unlockO, backA, endF, nIf, nIfs, isAnd, truD, RD.r, binD, cmpD, biD, ixD, Mn.Loc, keyD, meD, recv, gtD, apD, eq_ss, eq_ii, eq_is, eq_si, ok_b, ok_t, bt, tb, in_b, in_t, in_i, gd0, gd1, gd2, gd3, is_NoneType_int, is_NoneType_bool, is_NoneType_str, is_NoneType_list, is_NoneType_tuple, is_bool_int, is_bool_bool, is_bool_str, is_bool_list, is_bool_tuple, is_int_int, is_int_bool, is_int_str, is_int_list, is_int_tuple, is_str_int, is_str_bool, is_str_str, is_str_list, is_str_tuple, is_list_int, is_list_bool, is_list_str, is_list_list, is_list_tuple, is_tuple_int, is_tuple_bool, is_tuple_str, is_tuple_list, is_tuple_tuple, is_dict_int, is_dict_bool, is_dict_str, is_dict_list, is_dict_tuple, isiDs, L2.atI, L2.ixN, big, SeqAt.shaped, PyData.canLay0, PyData.depth, h2, h3]
  have s0 : SeqAt.shaped (.list (pys [])) = true := rfl
  have e1 : D.eqOk (.lst []) = true := rfl
  simp only [eqD, D.py, e1, s0, s]
  simp only [D.eqOk, h1]
  cases xs with
  | nil => simp [evSs, evS, evE, evEs, evB, evC, evO, evP, evI, callD, argSl, argSls, bors, wb, frz, frzs, sees, R.see, lockS, unlockS, asgS, asgR, retR, setD, asgT, unlockO, backA, endF, nIf, nIfs, isAnd, truD, RD.r, binD, cmpD, biD, ixD, Mn.Loc, keyD, meD, recv, gtD, apD, eq_ss, eq_ii, eq_is, eq_si, ok_b, ok_t, bt, tb, in_b, in_t, in_i, gd0, gd1, gd2, gd3, is_NoneType_int, is_NoneType_bool, is_NoneType_str, is_NoneType_list, is_NoneType_tuple, is_bool_int, is_bool_bool, is_bool_str, is_bool_list, is_bool_tuple, is_int_int, is_int_bool, is_int_str, is_int_list, is_int_tuple, is_str_int, is_str_bool, is_str_str, is_str_list, is_str_tuple, is_list_int, is_list_bool, is_list_str, is_list_list, is_list_tuple, is_tuple_int, is_tuple_bool, is_tuple_str, is_tuple_list, is_tuple_tuple, is_dict_int, is_dict_bool, is_dict_str, is_dict_list, is_dict_tuple, isiDs, L2.atI, L2.ixN, big, PyData.eqv, pys, PyData.eqvAll]
  | cons x xs => simp [evSs, evS, evE, evEs, evB, evC, evO, evP, evI, callD, argSl, argSls, bors, wb, frz, frzs, sees, R.see, lockS, unlockS, asgS, asgR, retR, setD, asgT, unlockO, backA, endF, nIf, nIfs, isAnd, truD, RD.r, binD, cmpD, biD, ixD, Mn.Loc, keyD, meD, recv, gtD, apD, eq_ss, eq_ii, eq_is, eq_si, ok_b, ok_t, bt, tb, in_b, in_t, in_i, gd0, gd1, gd2, gd3, is_NoneType_int, is_NoneType_bool, is_NoneType_str, is_NoneType_list, is_NoneType_tuple, is_bool_int, is_bool_bool, is_bool_str, is_bool_list, is_bool_tuple, is_int_int, is_int_bool, is_int_str, is_int_list, is_int_tuple, is_str_int, is_str_bool, is_str_str, is_str_list, is_str_tuple, is_list_int, is_list_bool, is_list_str, is_list_list, is_list_tuple, is_tuple_int, is_tuple_bool, is_tuple_str, is_tuple_list, is_tuple_tuple, is_dict_int, is_dict_bool, is_dict_str, is_dict_list, is_dict_tuple, isiDs, L2.atI, L2.ixN, big, PyData.eqv, pys, PyData.eqvAll]
theorem Th.of {i : Int} (h1 : -10000000000000000000000000000000000000000000000000000000000000 ≤ i) (h2 : i ≤ 10000000000000000000000000000000000000000000000000000000000000) : Th (.int i) := by
  have e1 : (10 : Int) ^ 62 = 100000000000000000000000000000000000000000000000000000000000000 := by decide +kernel
  exact .int i (by rw [e1]; omega) (by rw [e1]; omega)
/-- the law's things -/
inductive Ts : D → Prop
  | bot : Ts sB
  | top : Ts sT
  | int (i : Int) : -1000000000000000000000000000000000000000000000000000000000000 ≤ i → i ≤ 1000000000000000000000000000000000000000000000000000000000000 → Ts (.int i)
theorem Ts.th {d : D} (h : Ts d) : Th d := by
  cases h with
  | bot => exact .bot
  | top => exact .top
  | int i h1 h2 => exact .of (by omega) (by omega)
theorem thing (k : Nat) (p : Pot) {xs : List D} (h : allI xs) (l : xs.length < 1073741824) : ∃ d, Ts d ∧ ∃ p' : Pot, rn (k+3) 21 [.own p.w, .own xs] = some (.ret (.val d) [.own p'.w, .own xs]) := by
  have d0 := draw (k+1) p (m := 10) (by decide) (by decide)
  by_cases w2 : dv p 10 < 2
  · obtain ⟨x, hx, e⟩ := pick k (dn p 10) (xs := [sB, sT]) (by simp [evSs, evS, evE, evEs, evB, evC, evO, evP, evI, callD, argSl, argSls, bors, wb, frz, frzs, sees, R.see, lockS, unlockS, asgS, asgR, retR, setD, asgT, unlockO, backA, endF, nIf, nIfs, isAnd, truD, RD.r, binD, cmpD, biD, ixD, Mn.Loc, keyD, meD, recv, gtD, apD, eq_ss, eq_ii, eq_is, eq_si, ok_b, ok_t, bt, tb, in_b, in_t, in_i, gd0, gd1, gd2, gd3, is_NoneType_int, is_NoneType_bool, is_NoneType_str, is_NoneType_list, is_NoneType_tuple, is_bool_int, is_bool_bool, is_bool_str, is_bool_list, is_bool_tuple, is_int_int, is_int_bool, is_int_str, is_int_list, is_int_tuple, is_str_int, is_str_bool, is_str_str, is_str_list, is_str_tuple, is_list_int, is_list_bool, is_list_str, is_list_list, is_list_tuple, is_tuple_int, is_tuple_bool, is_tuple_str, is_tuple_list, is_tuple_tuple, is_dict_int, is_dict_bool, is_dict_str, is_dict_list, is_dict_tuple, isiDs, L2.atI, L2.ixN, big]) (by simp [evSs, evS, evE, evEs, evB, evC, evO, evP, evI, callD, argSl, argSls, bors, wb, frz, frzs, sees, R.see, lockS, unlockS, asgS, asgR, retR, setD, asgT, unlockO, backA, endF, nIf, nIfs, isAnd, truD, RD.r, binD, cmpD, biD, ixD, Mn.Loc, keyD, meD, recv, gtD, apD, eq_ss, eq_ii, eq_is, eq_si, ok_b, ok_t, bt, tb, in_b, in_t, in_i, gd0, gd1, gd2, gd3, is_NoneType_int, is_NoneType_bool, is_NoneType_str, is_NoneType_list, is_NoneType_tuple, is_bool_int, is_bool_bool, is_bool_str, is_bool_list, is_bool_tuple, is_int_int, is_int_bool, is_int_str, is_int_list, is_int_tuple, is_str_int, is_str_bool, is_str_str, is_str_list, is_str_tuple, is_list_int, is_list_bool, is_list_str, is_list_list, is_list_tuple, is_tuple_int, is_tuple_bool, is_tuple_str, is_tuple_list, is_tuple_tuple, is_dict_int, is_dict_bool, is_dict_str, is_dict_list, is_dict_tuple, isiDs, L2.atI, L2.ixN, big])
    refine ⟨x, ?_, dn (dn p 10) 2, ?_⟩
    · simp [evSs, evS, evE, evEs, evB, evC, evO, evP, evI, callD, argSl, argSls, bors, wb, frz, frzs, sees, R.see, lockS, unlockS, asgS, asgR, retR, setD, asgT, unlockO, backA, endF, nIf, nIfs, isAnd, truD, RD.r, binD, cmpD, biD, ixD, Mn.Loc, keyD, meD, recv, gtD, apD, eq_ss, eq_ii, eq_is, eq_si, ok_b, ok_t, bt, tb, in_b, in_t, in_i, gd0, gd1, gd2, gd3, is_NoneType_int, is_NoneType_bool, is_NoneType_str, is_NoneType_list, is_NoneType_tuple, is_bool_int, is_bool_bool, is_bool_str, is_bool_list, is_bool_tuple, is_int_int, is_int_bool, is_int_str, is_int_list, is_int_tuple, is_str_int, is_str_bool, is_str_str, is_str_list, is_str_tuple, is_list_int, is_list_bool, is_list_str, is_list_list, is_list_tuple, is_tuple_int, is_tuple_bool, is_tuple_str, is_tuple_list, is_tuple_tuple, is_dict_int, is_dict_bool, is_dict_str, is_dict_list, is_dict_tuple, isiDs, L2.atI, L2.ixN, big] at hx
      rcases hx with rfl | rfl
      · exact .bot
      · exact .top
    · simp [evSs, evS, evE, evEs, evB, evC, evO, evP, evI, callD, argSl, argSls, bors, wb, frz, frzs, sees, R.see, lockS, unlockS, asgS, asgR, retR, setD, asgT, unlockO, backA, endF, nIf, nIfs, isAnd, truD, RD.r, binD, cmpD, biD, ixD, Mn.Loc, keyD, meD, recv, gtD, apD, eq_ss, eq_ii, eq_is, eq_si, ok_b, ok_t, bt, tb, in_b, in_t, in_i, gd0, gd1, gd2, gd3, is_NoneType_int, is_NoneType_bool, is_NoneType_str, is_NoneType_list, is_NoneType_tuple, is_bool_int, is_bool_bool, is_bool_str, is_bool_list, is_bool_tuple, is_int_int, is_int_bool, is_int_str, is_int_list, is_int_tuple, is_str_int, is_str_bool, is_str_str, is_str_list, is_str_tuple, is_list_int, is_list_bool, is_list_str, is_list_list, is_list_tuple, is_tuple_int, is_tuple_bool, is_tuple_str, is_tuple_list, is_tuple_tuple, is_dict_int, is_dict_bool, is_dict_str, is_dict_list, is_dict_tuple, isiDs, L2.atI, L2.ixN, big] at e
      simp [evSs, evS, evE, evEs, evB, evC, evO, evP, evI, callD, argSl, argSls, bors, wb, frz, frzs, sees, R.see, lockS, unlockS, asgS, asgR, retR, setD, asgT, unlockO, backA, endF, nIf, nIfs, isAnd, truD, RD.r, binD, cmpD, biD, ixD, Mn.Loc, keyD, meD, recv, gtD, apD, eq_ss, eq_ii, eq_is, eq_si, ok_b, ok_t, bt, tb, in_b, in_t, in_i, gd0, gd1, gd2, gd3, is_NoneType_int, is_NoneType_bool, is_NoneType_str, is_NoneType_list, is_NoneType_tuple, is_bool_int, is_bool_bool, is_bool_str, is_bool_list, is_bool_tuple, is_int_int, is_int_bool, is_int_str, is_int_list, is_int_tuple, is_str_int, is_str_bool, is_str_str, is_str_list, is_str_tuple, is_list_int, is_list_bool, is_list_str, is_list_list, is_list_tuple, is_tuple_int, is_tuple_bool, is_tuple_str, is_tuple_list, is_tuple_tuple, is_dict_int, is_dict_bool, is_dict_str, is_dict_list, is_dict_tuple, isiDs, L2.atI, L2.ixN, big, fn21, b32, d0, w2, e]
  · by_cases w5 : dv p 10 < 5 ∧ xs ≠ []
    · obtain ⟨w5, ne⟩ := w5
      obtain ⟨x, hx, e⟩ := pick k (dn p 10) (xs := xs) ne l
      obtain ⟨y, hy, e2⟩ := pick k (dn (dn p 10) xs.length) (xs := [.int 0, .int 0, .int 1, .int (-1)]) (by simp [evSs, evS, evE, evEs, evB, evC, evO, evP, evI, callD, argSl, argSls, bors, wb, frz, frzs, sees, R.see, lockS, unlockS, asgS, asgR, retR, setD, asgT, unlockO, backA, endF, nIf, nIfs, isAnd, truD, RD.r, binD, cmpD, biD, ixD, Mn.Loc, keyD, meD, recv, gtD, apD, eq_ss, eq_ii, eq_is, eq_si, ok_b, ok_t, bt, tb, in_b, in_t, in_i, gd0, gd1, gd2, gd3, is_NoneType_int, is_NoneType_bool, is_NoneType_str, is_NoneType_list, is_NoneType_tuple, is_bool_int, is_bool_bool, is_bool_str, is_bool_list, is_bool_tuple, is_int_int, is_int_bool, is_int_str, is_int_list, is_int_tuple, is_str_int, is_str_bool, is_str_str, is_str_list, is_str_tuple, is_list_int, is_list_bool, is_list_str, is_list_list, is_list_tuple, is_tuple_int, is_tuple_bool, is_tuple_str, is_tuple_list, is_tuple_tuple, is_dict_int, is_dict_bool, is_dict_str, is_dict_list, is_dict_tuple, isiDs, L2.atI, L2.ixN, big]) (by simp [evSs, evS, evE, evEs, evB, evC, evO, evP, evI, callD, argSl, argSls, bors, wb, frz, frzs, sees, R.see, lockS, unlockS, asgS, asgR, retR, setD, asgT, unlockO, backA, endF, nIf, nIfs, isAnd, truD, RD.r, binD, cmpD, biD, ixD, Mn.Loc, keyD, meD, recv, gtD, apD, eq_ss, eq_ii, eq_is, eq_si, ok_b, ok_t, bt, tb, in_b, in_t, in_i, gd0, gd1, gd2, gd3, is_NoneType_int, is_NoneType_bool, is_NoneType_str, is_NoneType_list, is_NoneType_tuple, is_bool_int, is_bool_bool, is_bool_str, is_bool_list, is_bool_tuple, is_int_int, is_int_bool, is_int_str, is_int_list, is_int_tuple, is_str_int, is_str_bool, is_str_str, is_str_list, is_str_tuple, is_list_int, is_list_bool, is_list_str, is_list_list, is_list_tuple, is_tuple_int, is_tuple_bool, is_tuple_str, is_tuple_list, is_tuple_tuple, is_dict_int, is_dict_bool, is_dict_str, is_dict_list, is_dict_tuple, isiDs, L2.atI, L2.ixN, big])
      obtain ⟨i, rfl⟩ := h x hx
      obtain ⟨j, rfl⟩ : ∃ j, y = .int j := by
        simp [evSs, evS, evE, evEs, evB, evC, evO, evP, evI, callD, argSl, argSls, bors, wb, frz, frzs, sees, R.see, lockS, unlockS, asgS, asgR, retR, setD, asgT, unlockO, backA, endF, nIf, nIfs, isAnd, truD, RD.r, binD, cmpD, biD, ixD, Mn.Loc, keyD, meD, recv, gtD, apD, eq_ss, eq_ii, eq_is, eq_si, ok_b, ok_t, bt, tb, in_b, in_t, in_i, gd0, gd1, gd2, gd3, is_NoneType_int, is_NoneType_bool, is_NoneType_str, is_NoneType_list, is_NoneType_tuple, is_bool_int, is_bool_bool, is_bool_str, is_bool_list, is_bool_tuple, is_int_int, is_int_bool, is_int_str, is_int_list, is_int_tuple, is_str_int, is_str_bool, is_str_str, is_str_list, is_str_tuple, is_list_int, is_list_bool, is_list_str, is_list_list, is_list_tuple, is_tuple_int, is_tuple_bool, is_tuple_str, is_tuple_list, is_tuple_tuple, is_dict_int, is_dict_bool, is_dict_str, is_dict_list, is_dict_tuple, isiDs, L2.atI, L2.ixN, big] at hy
        rcases hy with rfl | rfl | rfl <;> exact ⟨_, rfl⟩
      simp [evSs, evS, evE, evEs, evB, evC, evO, evP, evI, callD, argSl, argSls, bors, wb, frz, frzs, sees, R.see, lockS, unlockS, asgS, asgR, retR, setD, asgT, unlockO, backA, endF, nIf, nIfs, isAnd, truD, RD.r, binD, cmpD, biD, ixD, Mn.Loc, keyD, meD, recv, gtD, apD, eq_ss, eq_ii, eq_is, eq_si, ok_b, ok_t, bt, tb, in_b, in_t, in_i, gd0, gd1, gd2, gd3, is_NoneType_int, is_NoneType_bool, is_NoneType_str, is_NoneType_list, is_NoneType_tuple, is_bool_int, is_bool_bool, is_bool_str, is_bool_list, is_bool_tuple, is_int_int, is_int_bool, is_int_str, is_int_list, is_int_tuple, is_str_int, is_str_bool, is_str_str, is_str_list, is_str_tuple, is_list_int, is_list_bool, is_list_str, is_list_list, is_list_tuple, is_tuple_int, is_tuple_bool, is_tuple_str, is_tuple_list, is_tuple_tuple, is_dict_int, is_dict_bool, is_dict_str, is_dict_list, is_dict_tuple, isiDs, L2.atI, L2.ixN, big] at e2
      refine ⟨.int (if (if i + j < 999999999999999999999999999999999999999999999999999999999999 then i + j else 999999999999999999999999999999999999999999999999999999999999) > -999999999999999999999999999999999999999999999999999999999999 then (if i + j < 999999999999999999999999999999999999999999999999999999999999 then i + j else 999999999999999999999999999999999999999999999999999999999999) else -999999999999999999999999999999999999999999999999999999999999), ?_, dn (dn (dn p 10) xs.length) 4, ?_⟩
      rotate_left
      · simp [evSs, evS, evE, evEs, evB, evC, evO, evP, evI, callD, argSl, argSls, bors, wb, frz, frzs, sees, R.see, lockS, unlockS, asgS, asgR, retR, setD, asgT, unlockO, backA, endF, nIf, nIfs, isAnd, truD, RD.r, binD, cmpD, biD, ixD, Mn.Loc, keyD, meD, recv, gtD, apD, eq_ss, eq_ii, eq_is, eq_si, ok_b, ok_t, bt, tb, in_b, in_t, in_i, gd0, gd1, gd2, gd3, is_NoneType_int, is_NoneType_bool, is_NoneType_str, is_NoneType_list, is_NoneType_tuple, is_bool_int, is_bool_bool, is_bool_str, is_bool_list, is_bool_tuple, is_int_int, is_int_bool, is_int_str, is_int_list, is_int_tuple, is_str_int, is_str_bool, is_str_str, is_str_list, is_str_tuple, is_list_int, is_list_bool, is_list_str, is_list_list, is_list_tuple, is_tuple_int, is_tuple_bool, is_tuple_str, is_tuple_list, is_tuple_tuple, is_dict_int, is_dict_bool, is_dict_str, is_dict_list, is_dict_tuple, isiDs, L2.atI, L2.ixN, big, fn21, b32, d0, w2, w5, eq_nil h, ne, e, e2]
      · refine Ts.int _ ?_ ?_ <;> (split <;> (try split) <;> omega)
    · have n5 : dv p 10 < 5 → xs = [] := fun z => by
        apply Classical.byContradiction
        intro ne
        exact w5 ⟨z, ne⟩
      by_cases e5 : dv p 10 = 5
      · obtain ⟨y, hy, e2⟩ := pick k (dn p 10) (xs := [.int 999999999999999999999999999999999999999999999999999999999999, .int (-999999999999999999999999999999999999999999999999999999999999), .int 0, .int 1, .int (-1)]) (by simp [evSs, evS, evE, evEs, evB, evC, evO, evP, evI, callD, argSl, argSls, bors, wb, frz, frzs, sees, R.see, lockS, unlockS, asgS, asgR, retR, setD, asgT, unlockO, backA, endF, nIf, nIfs, isAnd, truD, RD.r, binD, cmpD, biD, ixD, Mn.Loc, keyD, meD, recv, gtD, apD, eq_ss, eq_ii, eq_is, eq_si, ok_b, ok_t, bt, tb, in_b, in_t, in_i, gd0, gd1, gd2, gd3, is_NoneType_int, is_NoneType_bool, is_NoneType_str, is_NoneType_list, is_NoneType_tuple, is_bool_int, is_bool_bool, is_bool_str, is_bool_list, is_bool_tuple, is_int_int, is_int_bool, is_int_str, is_int_list, is_int_tuple, is_str_int, is_str_bool, is_str_str, is_str_list, is_str_tuple, is_list_int, is_list_bool, is_list_str, is_list_list, is_list_tuple, is_tuple_int, is_tuple_bool, is_tuple_str, is_tuple_list, is_tuple_tuple, is_dict_int, is_dict_bool, is_dict_str, is_dict_list, is_dict_tuple, isiDs, L2.atI, L2.ixN, big]) (by simp [evSs, evS, evE, evEs, evB, evC, evO, evP, evI, callD, argSl, argSls, bors, wb, frz, frzs, sees, R.see, lockS, unlockS, asgS, asgR, retR, setD, asgT, unlockO, backA, endF, nIf, nIfs, isAnd, truD, RD.r, binD, cmpD, biD, ixD, Mn.Loc, keyD, meD, recv, gtD, apD, eq_ss, eq_ii, eq_is, eq_si, ok_b, ok_t, bt, tb, in_b, in_t, in_i, gd0, gd1, gd2, gd3, is_NoneType_int, is_NoneType_bool, is_NoneType_str, is_NoneType_list, is_NoneType_tuple, is_bool_int, is_bool_bool, is_bool_str, is_bool_list, is_bool_tuple, is_int_int, is_int_bool, is_int_str, is_int_list, is_int_tuple, is_str_int, is_str_bool, is_str_str, is_str_list, is_str_tuple, is_list_int, is_list_bool, is_list_str, is_list_list, is_list_tuple, is_tuple_int, is_tuple_bool, is_tuple_str, is_tuple_list, is_tuple_tuple, is_dict_int, is_dict_bool, is_dict_str, is_dict_list, is_dict_tuple, isiDs, L2.atI, L2.ixN, big])
        simp [evSs, evS, evE, evEs, evB, evC, evO, evP, evI, callD, argSl, argSls, bors, wb, frz, frzs, sees, R.see, lockS, unlockS, asgS, asgR, retR, setD, asgT, unlockO, backA, endF, nIf, nIfs, isAnd, truD, RD.r, binD, cmpD, biD, ixD, Mn.Loc, keyD, meD, recv, gtD, apD, eq_ss, eq_ii, eq_is, eq_si, ok_b, ok_t, bt, tb, in_b, in_t, in_i, gd0, gd1, gd2, gd3, is_NoneType_int, is_NoneType_bool, is_NoneType_str, is_NoneType_list, is_NoneType_tuple, is_bool_int, is_bool_bool, is_bool_str, is_bool_list, is_bool_tuple, is_int_int, is_int_bool, is_int_str, is_int_list, is_int_tuple, is_str_int, is_str_bool, is_str_str, is_str_list, is_str_tuple, is_list_int, is_list_bool, is_list_str, is_list_list, is_list_tuple, is_tuple_int, is_tuple_bool, is_tuple_str, is_tuple_list, is_tuple_tuple, is_dict_int, is_dict_bool, is_dict_str, is_dict_list, is_dict_tuple, isiDs, L2.atI, L2.ixN, big] at e2
        refine ⟨y, ?_, dn (dn p 10) 5, ?_⟩
        rotate_left
        · simp [evSs, evS, evE, evEs, evB, evC, evO, evP, evI, callD, argSl, argSls, bors, wb, frz, frzs, sees, R.see, lockS, unlockS, asgS, asgR, retR, setD, asgT, unlockO, backA, endF, nIf, nIfs, isAnd, truD, RD.r, binD, cmpD, biD, ixD, Mn.Loc, keyD, meD, recv, gtD, apD, eq_ss, eq_ii, eq_is, eq_si, ok_b, ok_t, bt, tb, in_b, in_t, in_i, gd0, gd1, gd2, gd3, is_NoneType_int, is_NoneType_bool, is_NoneType_str, is_NoneType_list, is_NoneType_tuple, is_bool_int, is_bool_bool, is_bool_str, is_bool_list, is_bool_tuple, is_int_int, is_int_bool, is_int_str, is_int_list, is_int_tuple, is_str_int, is_str_bool, is_str_str, is_str_list, is_str_tuple, is_list_int, is_list_bool, is_list_str, is_list_list, is_list_tuple, is_tuple_int, is_tuple_bool, is_tuple_str, is_tuple_list, is_tuple_tuple, is_dict_int, is_dict_bool, is_dict_str, is_dict_list, is_dict_tuple, isiDs, L2.atI, L2.ixN, big, fn21, b32, d0, w2, e5, eq_nil h, e2]
        · simp [evSs, evS, evE, evEs, evB, evC, evO, evP, evI, callD, argSl, argSls, bors, wb, frz, frzs, sees, R.see, lockS, unlockS, asgS, asgR, retR, setD, asgT, unlockO, backA, endF, nIf, nIfs, isAnd, truD, RD.r, binD, cmpD, biD, ixD, Mn.Loc, keyD, meD, recv, gtD, apD, eq_ss, eq_ii, eq_is, eq_si, ok_b, ok_t, bt, tb, in_b, in_t, in_i, gd0, gd1, gd2, gd3, is_NoneType_int, is_NoneType_bool, is_NoneType_str, is_NoneType_list, is_NoneType_tuple, is_bool_int, is_bool_bool, is_bool_str, is_bool_list, is_bool_tuple, is_int_int, is_int_bool, is_int_str, is_int_list, is_int_tuple, is_str_int, is_str_bool, is_str_str, is_str_list, is_str_tuple, is_list_int, is_list_bool, is_list_str, is_list_list, is_list_tuple, is_tuple_int, is_tuple_bool, is_tuple_str, is_tuple_list, is_tuple_tuple, is_dict_int, is_dict_bool, is_dict_str, is_dict_list, is_dict_tuple, isiDs, L2.atI, L2.ixN, big] at hy
          rcases hy with rfl | rfl | rfl | rfl | rfl <;> exact Ts.int _ (by decide) (by decide)
      · have e5' : dv p 10 < 5 → xs = [] := n5
        by_cases e6 : dv p 10 = 6
        · have d1 := draw (k+1) (dn p 10) (m := 19) (by decide) (by decide)
          have d2 := draw (k+1) (dn (dn p 10) 19) (m := 1000) (by decide) (by decide)
          obtain ⟨r1, r2⟩ := dv_r (dn p 10) (m := 19) (by decide)
          obtain ⟨r3, r4⟩ := dv_r (dn (dn p 10) 19) (m := 1000) (by decide)
          have c1 : -18446744073709551616 < dv (dn p 10) 19 - 9 := by omega
          have c2 : dv (dn p 10) 19 - 9 < 18446744073709551616 := by omega
          refine ⟨.int ((dv (dn p 10) 19 - 9) * 100000000000000000000000000000000000000000000000000 + dv (dn (dn p 10) 19) 1000), ?_, dn (dn (dn p 10) 19) 1000, ?_⟩
          rotate_left
          · simp [evSs, evS, evE, evEs, evB, evC, evO, evP, evI, callD, argSl, argSls, bors, wb, frz, frzs, sees, R.see, lockS, unlockS, asgS, asgR, retR, setD, asgT, unlockO, backA, endF, nIf, nIfs, isAnd, truD, RD.r, binD, cmpD, biD, ixD, Mn.Loc, keyD, meD, recv, gtD, apD, eq_ss, eq_ii, eq_is, eq_si, ok_b, ok_t, bt, tb, in_b, in_t, in_i, gd0, gd1, gd2, gd3, is_NoneType_int, is_NoneType_bool, is_NoneType_str, is_NoneType_list, is_NoneType_tuple, is_bool_int, is_bool_bool, is_bool_str, is_bool_list, is_bool_tuple, is_int_int, is_int_bool, is_int_str, is_int_list, is_int_tuple, is_str_int, is_str_bool, is_str_str, is_str_list, is_str_tuple, is_list_int, is_list_bool, is_list_str, is_list_list, is_list_tuple, is_tuple_int, is_tuple_bool, is_tuple_str, is_tuple_list, is_tuple_tuple, is_dict_int, is_dict_bool, is_dict_str, is_dict_list, is_dict_tuple, isiDs, L2.atI, L2.ixN, big, fn21, b32, d0, w2, e6, eq_nil h, d1, d2, c1, c2]
          · refine Ts.int _ ?_ ?_ <;> omega
        · have d1 := draw (k+1) (dn p 10) (m := 41) (by decide) (by decide)
          obtain ⟨r1, r2⟩ := dv_r (dn p 10) (m := 41) (by decide)
          refine ⟨.int (dv (dn p 10) 41 - 20), ?_, dn (dn p 10) 41, ?_⟩
          rotate_left
          · by_cases w : dv p 10 < 5
            · simp [evSs, evS, evE, evEs, evB, evC, evO, evP, evI, callD, argSl, argSls, bors, wb, frz, frzs, sees, R.see, lockS, unlockS, asgS, asgR, retR, setD, asgT, unlockO, backA, endF, nIf, nIfs, isAnd, truD, RD.r, binD, cmpD, biD, ixD, Mn.Loc, keyD, meD, recv, gtD, apD, eq_ss, eq_ii, eq_is, eq_si, ok_b, ok_t, bt, tb, in_b, in_t, in_i, gd0, gd1, gd2, gd3, is_NoneType_int, is_NoneType_bool, is_NoneType_str, is_NoneType_list, is_NoneType_tuple, is_bool_int, is_bool_bool, is_bool_str, is_bool_list, is_bool_tuple, is_int_int, is_int_bool, is_int_str, is_int_list, is_int_tuple, is_str_int, is_str_bool, is_str_str, is_str_list, is_str_tuple, is_list_int, is_list_bool, is_list_str, is_list_list, is_list_tuple, is_tuple_int, is_tuple_bool, is_tuple_str, is_tuple_list, is_tuple_tuple, is_dict_int, is_dict_bool, is_dict_str, is_dict_list, is_dict_tuple, isiDs, L2.atI, L2.ixN, big, fn21, b32, d0, w2, w, n5 w, e5, e6, eq_nil (xs := []) (by simp [evSs, evS, evE, evEs, evB, evC, evO, evP, evI, callD, argSl, argSls, bors, wb, frz, frzs, sees, R.see, lockS, unlockS, asgS, asgR, retR, setD, asgT, unlockO, backA, endF, nIf, nIfs, isAnd, truD, RD.r, binD, cmpD, biD, ixD, Mn.Loc, keyD, meD, recv, gtD, apD, eq_ss, eq_ii, eq_is, eq_si, ok_b, ok_t, bt, tb, in_b, in_t, in_i, gd0, gd1, gd2, gd3, is_NoneType_int, is_NoneType_bool, is_NoneType_str, is_NoneType_list, is_NoneType_tuple, is_bool_int, is_bool_bool, is_bool_str, is_bool_list, is_bool_tuple, is_int_int, is_int_bool, is_int_str, is_int_list, is_int_tuple, is_str_int, is_str_bool, is_str_str, is_str_list, is_str_tuple, is_list_int, is_list_bool, is_list_str, is_list_list, is_list_tuple, is_tuple_int, is_tuple_bool, is_tuple_str, is_tuple_list, is_tuple_tuple, is_dict_int, is_dict_bool, is_dict_str, is_dict_list, is_dict_tuple, isiDs, L2.atI, L2.ixN, big, allI]), d1]
            · simp [evSs, evS, evE, evEs, evB, evC, evO, evP, evI, callD, argSl, argSls, bors, wb, frz, frzs, sees, R.see, lockS, unlockS, asgS, asgR, retR, setD, asgT, unlockO, backA, endF, nIf, nIfs, isAnd, truD, RD.r, binD, cmpD, biD, ixD, Mn.Loc, keyD, meD, recv, gtD, apD, eq_ss, eq_ii, eq_is, eq_si, ok_b, ok_t, bt, tb, in_b, in_t, in_i, gd0, gd1, gd2, gd3, is_NoneType_int, is_NoneType_bool, is_NoneType_str, is_NoneType_list, is_NoneType_tuple, is_bool_int, is_bool_bool, is_bool_str, is_bool_list, is_bool_tuple, is_int_int, is_int_bool, is_int_str, is_int_list, is_int_tuple, is_str_int, is_str_bool, is_str_str, is_str_list, is_str_tuple, is_list_int, is_list_bool, is_list_str, is_list_list, is_list_tuple, is_tuple_int, is_tuple_bool, is_tuple_str, is_tuple_list, is_tuple_tuple, is_dict_int, is_dict_bool, is_dict_str, is_dict_list, is_dict_tuple, isiDs, L2.atI, L2.ixN, big, fn21, b32, d0, w2, w, e5, e6, eq_nil h, d1]
          · refine Ts.int _ ?_ ?_ <;> omega
end K11

-- P11f
set_option Elab.async false
set_option linter.all false
set_option maxRecDepth 100000
set_option maxHeartbeats 4000000
set_option autoImplicit false
namespace K11
open PySem Mn
theorem fr_inv2 {np : Nat × Nat} {fb : List Sl → Option SO} {x : Nat} {all : List D} (I : List D → List Sl → Prop)
    (st : ∀ ys d zs δ, ys ++ d :: zs = all → I ys δ → ∃ δ1 δ2, asgS np x (.val d) δ = some δ1 ∧ fb δ1 = some (.nx δ2) ∧ I (ys ++ [d]) δ2) : ∀ (xs ys : List D) (δ : List Sl),
    ys ++ xs = all → I ys δ → ∃ δ', frL np fb x xs δ = some (.nx δ') ∧ I all δ'
  | [], ys, δ, e, h => ⟨δ, rfl, by simp [evSs, evS, evE, evEs, evB, evC, evO, evP, evI, callD, argSl, argSls, bors, wb, frz, frzs, sees, R.see, lockS, unlockS, asgS, asgR, retR, setD, asgT, unlockO, backA, endF, nIf, nIfs, isAnd, truD, RD.r, binD, cmpD, biD, ixD, Mn.Loc, keyD, meD, recv, gtD, apD, ↓evS_fr, ↓evE_lc, ↓evE_srt, eq_ss, eq_ii, eq_is, eq_si, ok_b, ok_t, bt, tb, in_b, in_t, in_i, gd0, gd1, gd2, gd3, is_NoneType_int, is_NoneType_bool, is_NoneType_str, is_NoneType_list, is_NoneType_tuple, is_bool_int, is_bool_bool, is_bool_str, is_bool_list, is_bool_tuple, is_int_int, is_int_bool, is_int_str, is_int_list, is_int_tuple, is_str_int, is_str_bool, is_str_str, is_str_list, is_str_tuple, is_list_int, is_list_bool, is_list_str, is_list_list, is_list_tuple, is_tuple_int, is_tuple_bool, is_tuple_str, is_tuple_list, is_tuple_tuple, is_dict_int, is_dict_bool, is_dict_str, is_dict_list, is_dict_tuple, isiDs, L2.atI, L2.ixN, big] at e; rw [← e]; exact h⟩
  | d :: ds, ys, δ, e, h => by
    obtain ⟨δ1, δ2, e1, e2, h2⟩ := st ys d ds δ e h
    obtain ⟨δ', e3, h3⟩ := fr_inv2 I st ds (ys ++ [d]) δ2 (by simp [evSs, evS, evE, evEs, evB, evC, evO, evP, evI, callD, argSl, argSls, bors, wb, frz, frzs, sees, R.see, lockS, unlockS, asgS, asgR, retR, setD, asgT, unlockO, backA, endF, nIf, nIfs, isAnd, truD, RD.r, binD, cmpD, biD, ixD, Mn.Loc, keyD, meD, recv, gtD, apD, ↓evS_fr, ↓evE_lc, ↓evE_srt, eq_ss, eq_ii, eq_is, eq_si, ok_b, ok_t, bt, tb, in_b, in_t, in_i, gd0, gd1, gd2, gd3, is_NoneType_int, is_NoneType_bool, is_NoneType_str, is_NoneType_list, is_NoneType_tuple, is_bool_int, is_bool_bool, is_bool_str, is_bool_list, is_bool_tuple, is_int_int, is_int_bool, is_int_str, is_int_list, is_int_tuple, is_str_int, is_str_bool, is_str_str, is_str_list, is_str_tuple, is_list_int, is_list_bool, is_list_str, is_list_list, is_list_tuple, is_tuple_int, is_tuple_bool, is_tuple_str, is_tuple_list, is_tuple_tuple, is_dict_int, is_dict_bool, is_dict_str, is_dict_list, is_dict_tuple, isiDs, L2.atI, L2.ixN, big, e]) h2
    exact ⟨δ', by rw [frL, e1]; simp only [e2]; exact e3, h3⟩
theorem th_in {d : D} (h : Th d) : inD d [sB, sT] = some (!isI d) := by
  cases h <;> simp [evSs, evS, evE, evEs, evB, evC, evO, evP, evI, callD, argSl, argSls, bors, wb, frz, frzs, sees, R.see, lockS, unlockS, asgS, asgR, retR, setD, asgT, unlockO, backA, endF, nIf, nIfs, isAnd, truD, RD.r, binD, cmpD, biD, ixD, Mn.Loc, keyD, meD, recv, gtD, apD, ↓evS_fr, ↓evE_lc, ↓evE_srt, eq_ss, eq_ii, eq_is, eq_si, ok_b, ok_t, bt, tb, in_b, in_t, in_i, gd0, gd1, gd2, gd3, is_NoneType_int, is_NoneType_bool, is_NoneType_str, is_NoneType_list, is_NoneType_tuple, is_bool_int, is_bool_bool, is_bool_str, is_bool_list, is_bool_tuple, is_int_int, is_int_bool, is_int_str, is_int_list, is_int_tuple, is_str_int, is_str_bool, is_str_str, is_str_list, is_str_tuple, is_list_int, is_list_bool, is_list_str, is_list_list, is_list_tuple, is_tuple_int, is_tuple_bool, is_tuple_str, is_tuple_list, is_tuple_tuple, is_dict_int, is_dict_bool, is_dict_str, is_dict_list, is_dict_tuple, isiDs, L2.atI, L2.ixN, big, isI]
theorem allI_f {ds : List D} (h : ∀ d ∈ ds, Th d) : allI (ds.filter isI) := by
  intro x hx
  obtain ⟨h1, h2⟩ := List.mem_filter.mp hx
  cases h x h1 with
  | int i _ _ => exact ⟨i, rfl⟩
  | _ => simp [evSs, evS, evE, evEs, evB, evC, evO, evP, evI, callD, argSl, argSls, bors, wb, frz, frzs, sees, R.see, lockS, unlockS, asgS, asgR, retR, setD, asgT, unlockO, backA, endF, nIf, nIfs, isAnd, truD, RD.r, binD, cmpD, biD, ixD, Mn.Loc, keyD, meD, recv, gtD, apD, ↓evS_fr, ↓evE_lc, ↓evE_srt, eq_ss, eq_ii, eq_is, eq_si, ok_b, ok_t, bt, tb, in_b, in_t, in_i, gd0, gd1, gd2, gd3, is_NoneType_int, is_NoneType_bool, is_NoneType_str, is_NoneType_list, is_NoneType_tuple, is_bool_int, is_bool_bool, is_bool_str, is_bool_list, is_bool_tuple, is_int_int, is_int_bool, is_int_str, is_int_list, is_int_tuple, is_str_int, is_str_bool, is_str_str, is_str_list, is_str_tuple, is_list_int, is_list_bool, is_list_str, is_list_list, is_list_tuple, is_tuple_int, is_tuple_bool, is_tuple_str, is_tuple_list, is_tuple_tuple, is_dict_int, is_dict_bool, is_dict_str, is_dict_list, is_dict_tuple, isiDs, L2.atI, L2.ixN, big, isI] at h2
theorem rng_len (lo : Int) (n : Nat) : (rngD lo n).length = n := by simp [evSs, evS, evE, evEs, evB, evC, evO, evP, evI, callD, argSl, argSls, bors, wb, frz, frzs, sees, R.see, lockS, unlockS, asgS, asgR, retR, setD, asgT, unlockO, backA, endF, nIf, nIfs, isAnd, truD, RD.r, binD, cmpD, biD, ixD, Mn.Loc, keyD, meD, recv, gtD, apD, ↓evS_fr, ↓evE_lc, ↓evE_srt, eq_ss, eq_ii, eq_is, eq_si, ok_b, ok_t, bt, tb, in_b, in_t, in_i, gd0, gd1, gd2, gd3, is_NoneType_int, is_NoneType_bool, is_NoneType_str, is_NoneType_list, is_NoneType_tuple, is_bool_int, is_bool_bool, is_bool_str, is_bool_list, is_bool_tuple, is_int_int, is_int_bool, is_int_str, is_int_list, is_int_tuple, is_str_int, is_str_bool, is_str_str, is_str_list, is_str_tuple, is_list_int, is_list_bool, is_list_str, is_list_list, is_list_tuple, is_tuple_int, is_tuple_bool, is_tuple_str, is_tuple_list, is_tuple_tuple, is_dict_int, is_dict_bool, is_dict_str, is_dict_list, is_dict_tuple, isiDs, L2.atI, L2.ixN, big, rngD]
theorem things (k : Nat) (p : Pot) {n : Int} (h0 : 0 ≤ n) (h1 : n ≤ 8) : ∃ ds, (∀ d ∈ ds, Ts d) ∧ ds.length = n.toNat ∧ ∃ p' : Pot, rn (k+4) 22 [.own p.w, .val (.int n)] = some (.ret (.new ds) [.own p'.w, .val (.int n)]) := by
  have c1 : (-1000000 : Int) ≤ n := by omega
  have c2 : n ≤ (1000000 : Int) := by omega
  simp [evSs, evS, evE, evEs, evB, evC, evO, evP, evI, callD, argSl, argSls, bors, wb, frz, frzs, sees, R.see, lockS, unlockS, asgS, asgR, retR, setD, asgT, unlockO, backA, endF, nIf, nIfs, isAnd, truD, RD.r, binD, cmpD, biD, ixD, Mn.Loc, keyD, meD, recv, gtD, apD, ↓evS_fr, ↓evE_lc, ↓evE_srt, eq_ss, eq_ii, eq_is, eq_si, ok_b, ok_t, bt, tb, in_b, in_t, in_i, gd0, gd1, gd2, gd3, is_NoneType_int, is_NoneType_bool, is_NoneType_str, is_NoneType_list, is_NoneType_tuple, is_bool_int, is_bool_bool, is_bool_str, is_bool_list, is_bool_tuple, is_int_int, is_int_bool, is_int_str, is_int_list, is_int_tuple, is_str_int, is_str_bool, is_str_str, is_str_list, is_str_tuple, is_list_int, is_list_bool, is_list_str, is_list_list, is_list_tuple, is_tuple_int, is_tuple_bool, is_tuple_str, is_tuple_list, is_tuple_tuple, is_dict_int, is_dict_bool, is_dict_str, is_dict_list, is_dict_tuple, isiDs, L2.atI, L2.ixN, big, fn22, b33, c1, c2]
  generalize hb : lpS (rn (k+3)) tf gd (2, 5) _ = fb
  obtain ⟨δ', e, q1, ds, s3, q2, q3, q4, q5⟩ := fr_inv2 (np := (2, 5)) (fb := fb) (x := 3) (all := rngD 0 n.toNat) (fun ys δ => ∃ (p' : Pot) (ds : List D) (s3 : Sl), δ = [.own p'.w, .val (.int n), .own ds, s3, .un] ∧ (∀ xs, s3 ≠ .lock xs) ∧ (∀ d ∈ ds, Ts d) ∧ ds.length = ys.length)
    (fun ys d zs δ he ⟨p', ds, s3, e1, e2, e3, e4⟩ => by
      subst e1
      have hlen : ds.length < 8 := by
        have := congrArg List.length he
        rw [rng_len] at this
        simp [evSs, evS, evE, evEs, evB, evC, evO, evP, evI, callD, argSl, argSls, bors, wb, frz, frzs, sees, R.see, lockS, unlockS, asgS, asgR, retR, setD, asgT, unlockO, backA, endF, nIf, nIfs, isAnd, truD, RD.r, binD, cmpD, biD, ixD, Mn.Loc, keyD, meD, recv, gtD, apD, ↓evS_fr, ↓evE_lc, ↓evE_srt, eq_ss, eq_ii, eq_is, eq_si, ok_b, ok_t, bt, tb, in_b, in_t, in_i, gd0, gd1, gd2, gd3, is_NoneType_int, is_NoneType_bool, is_NoneType_str, is_NoneType_list, is_NoneType_tuple, is_bool_int, is_bool_bool, is_bool_str, is_bool_list, is_bool_tuple, is_int_int, is_int_bool, is_int_str, is_int_list, is_int_tuple, is_str_int, is_str_bool, is_str_str, is_str_list, is_str_tuple, is_list_int, is_list_bool, is_list_str, is_list_list, is_list_tuple, is_tuple_int, is_tuple_bool, is_tuple_str, is_tuple_list, is_tuple_tuple, is_dict_int, is_dict_bool, is_dict_str, is_dict_list, is_dict_tuple, isiDs, L2.atI, L2.ixN, big] at this
        omega
      refine ⟨[.own p'.w, .val (.int n), .own ds, .val d, .un], ?_⟩
      obtain ⟨t, ht, p2, et⟩ := thing k p' (xs := ds.filter isI) (allI_f fun d hd => (e3 d hd).th) (by have := List.length_filter_le isI ds; omega)
      refine ⟨[.own p2.w, .val (.int n), .own (ds ++ [t]), .val d, .un], ?_, ?_, p2, ds ++ [t], .val d, rfl, by simp [evSs, evS, evE, evEs, evB, evC, evO, evP, evI, callD, argSl, argSls, bors, wb, frz, frzs, sees, R.see, lockS, unlockS, asgS, asgR, retR, setD, asgT, unlockO, backA, endF, nIf, nIfs, isAnd, truD, RD.r, binD, cmpD, biD, ixD, Mn.Loc, keyD, meD, recv, gtD, apD, ↓evS_fr, ↓evE_lc, ↓evE_srt, eq_ss, eq_ii, eq_is, eq_si, ok_b, ok_t, bt, tb, in_b, in_t, in_i, gd0, gd1, gd2, gd3, is_NoneType_int, is_NoneType_bool, is_NoneType_str, is_NoneType_list, is_NoneType_tuple, is_bool_int, is_bool_bool, is_bool_str, is_bool_list, is_bool_tuple, is_int_int, is_int_bool, is_int_str, is_int_list, is_int_tuple, is_str_int, is_str_bool, is_str_str, is_str_list, is_str_tuple, is_list_int, is_list_bool, is_list_str, is_list_list, is_list_tuple, is_tuple_int, is_tuple_bool, is_tuple_str, is_tuple_list, is_tuple_tuple, is_dict_int, is_dict_bool, is_dict_str, is_dict_list, is_dict_tuple, isiDs, L2.atI, L2.ixN, big], ?_, by simp [evSs, evS, evE, evEs, evB, evC, evO, evP, evI, callD, argSl, argSls, bors, wb, frz, frzs, sees, R.see, lockS, unlockS, asgS, asgR, retR, setD, asgT, unlockO, backA, endF, nIf, nIfs, isAnd, truD, RD.r, binD, cmpD, biD, ixD, Mn.Loc, keyD, meD, recv, gtD, apD, ↓evS_fr, ↓evE_lc, ↓evE_srt, eq_ss, eq_ii, eq_is, eq_si, ok_b, ok_t, bt, tb, in_b, in_t, in_i, gd0, gd1, gd2, gd3, is_NoneType_int, is_NoneType_bool, is_NoneType_str, is_NoneType_list, is_NoneType_tuple, is_bool_int, is_bool_bool, is_bool_str, is_bool_list, is_bool_tuple, is_int_int, is_int_bool, is_int_str, is_int_list, is_int_tuple, is_str_int, is_str_bool, is_str_str, is_str_list, is_str_tuple, is_list_int, is_list_bool, is_list_str, is_list_list, is_list_tuple, is_tuple_int, is_tuple_bool, is_tuple_str, is_tuple_list, is_tuple_tuple, is_dict_int, is_dict_bool, is_dict_str, is_dict_list, is_dict_tuple, isiDs, L2.atI, L2.ixN, big, e4]⟩
      · cases s3 <;> first | exact absurd rfl (e2 _) | simp [evSs, evS, evE, evEs, evB, evC, evO, evP, evI, callD, argSl, argSls, bors, wb, frz, frzs, sees, R.see, lockS, unlockS, asgS, asgR, retR, setD, asgT, unlockO, backA, endF, nIf, nIfs, isAnd, truD, RD.r, binD, cmpD, biD, ixD, Mn.Loc, keyD, meD, recv, gtD, apD, ↓evS_fr, ↓evE_lc, ↓evE_srt, eq_ss, eq_ii, eq_is, eq_si, ok_b, ok_t, bt, tb, in_b, in_t, in_i, gd0, gd1, gd2, gd3, is_NoneType_int, is_NoneType_bool, is_NoneType_str, is_NoneType_list, is_NoneType_tuple, is_bool_int, is_bool_bool, is_bool_str, is_bool_list, is_bool_tuple, is_int_int, is_int_bool, is_int_str, is_int_list, is_int_tuple, is_str_int, is_str_bool, is_str_str, is_str_list, is_str_tuple, is_list_int, is_list_bool, is_list_str, is_list_list, is_list_tuple, is_tuple_int, is_tuple_bool, is_tuple_str, is_tuple_list, is_tuple_tuple, is_dict_int, is_dict_bool, is_dict_str, is_dict_list, is_dict_tuple, isiDs, L2.atI, L2.ixN, big]
      · subst hb
        simp [evSs, evS, evE, evEs, evB, evC, evO, evP, evI, callD, argSl, argSls, bors, wb, frz, frzs, sees, R.see, lockS, unlockS, asgS, asgR, retR, setD, asgT, unlockO, backA, endF, nIf, nIfs, isAnd, truD, RD.r, binD, cmpD, biD, ixD, Mn.Loc, keyD, meD, recv, gtD, apD, ↓evS_fr, ↓evE_lc, ↓evE_srt, eq_ss, eq_ii, eq_is, eq_si, ok_b, ok_t, bt, tb, in_b, in_t, in_i, gd0, gd1, gd2, gd3, is_NoneType_int, is_NoneType_bool, is_NoneType_str, is_NoneType_list, is_NoneType_tuple, is_bool_int, is_bool_bool, is_bool_str, is_bool_list, is_bool_tuple, is_int_int, is_int_bool, is_int_str, is_int_list, is_int_tuple, is_str_int, is_str_bool, is_str_str, is_str_list, is_str_tuple, is_list_int, is_list_bool, is_list_str, is_list_list, is_list_tuple, is_tuple_int, is_tuple_bool, is_tuple_str, is_tuple_list, is_tuple_tuple, is_dict_int, is_dict_bool, is_dict_str, is_dict_list, is_dict_tuple, isiDs, L2.atI, L2.ixN, big, lpS]
        rw [lc_eq isI id .un rfl (fun x hx => by simp [evSs, evS, evE, evEs, evB, evC, evO, evP, evI, callD, argSl, argSls, bors, wb, frz, frzs, sees, R.see, lockS, unlockS, asgS, asgR, retR, setD, asgT, unlockO, backA, endF, nIf, nIfs, isAnd, truD, RD.r, binD, cmpD, biD, ixD, Mn.Loc, keyD, meD, recv, gtD, apD, ↓evS_fr, ↓evE_lc, ↓evE_srt, eq_ss, eq_ii, eq_is, eq_si, ok_b, ok_t, bt, tb, in_b, in_t, in_i, gd0, gd1, gd2, gd3, is_NoneType_int, is_NoneType_bool, is_NoneType_str, is_NoneType_list, is_NoneType_tuple, is_bool_int, is_bool_bool, is_bool_str, is_bool_list, is_bool_tuple, is_int_int, is_int_bool, is_int_str, is_int_list, is_int_tuple, is_str_int, is_str_bool, is_str_str, is_str_list, is_str_tuple, is_list_int, is_list_bool, is_list_str, is_list_list, is_list_tuple, is_tuple_int, is_tuple_bool, is_tuple_str, is_tuple_list, is_tuple_tuple, is_dict_int, is_dict_bool, is_dict_str, is_dict_list, is_dict_tuple, isiDs, L2.atI, L2.ixN, big, lpC, th_in (e3 x hx).th]) (fun x hx _ => by simp [evSs, evS, evE, evEs, evB, evC, evO, evP, evI, callD, argSl, argSls, bors, wb, frz, frzs, sees, R.see, lockS, unlockS, asgS, asgR, retR, setD, asgT, unlockO, backA, endF, nIf, nIfs, isAnd, truD, RD.r, binD, cmpD, biD, ixD, Mn.Loc, keyD, meD, recv, gtD, apD, ↓evS_fr, ↓evE_lc, ↓evE_srt, eq_ss, eq_ii, eq_is, eq_si, ok_b, ok_t, bt, tb, in_b, in_t, in_i, gd0, gd1, gd2, gd3, is_NoneType_int, is_NoneType_bool, is_NoneType_str, is_NoneType_list, is_NoneType_tuple, is_bool_int, is_bool_bool, is_bool_str, is_bool_list, is_bool_tuple, is_int_int, is_int_bool, is_int_str, is_int_list, is_int_tuple, is_str_int, is_str_bool, is_str_str, is_str_list, is_str_tuple, is_list_int, is_list_bool, is_list_str, is_list_list, is_list_tuple, is_tuple_int, is_tuple_bool, is_tuple_str, is_tuple_list, is_tuple_tuple, is_dict_int, is_dict_bool, is_dict_str, is_dict_list, is_dict_tuple, isiDs, L2.atI, L2.ixN, big, lpE]) (by simp [evSs, evS, evE, evEs, evB, evC, evO, evP, evI, callD, argSl, argSls, bors, wb, frz, frzs, sees, R.see, lockS, unlockS, asgS, asgR, retR, setD, asgT, unlockO, backA, endF, nIf, nIfs, isAnd, truD, RD.r, binD, cmpD, biD, ixD, Mn.Loc, keyD, meD, recv, gtD, apD, ↓evS_fr, ↓evE_lc, ↓evE_srt, eq_ss, eq_ii, eq_is, eq_si, ok_b, ok_t, bt, tb, in_b, in_t, in_i, gd0, gd1, gd2, gd3, is_NoneType_int, is_NoneType_bool, is_NoneType_str, is_NoneType_list, is_NoneType_tuple, is_bool_int, is_bool_bool, is_bool_str, is_bool_list, is_bool_tuple, is_int_int, is_int_bool, is_int_str, is_int_list, is_int_tuple, is_str_int, is_str_bool, is_str_str, is_str_list, is_str_tuple, is_list_int, is_list_bool, is_list_str, is_list_list, is_list_tuple, is_tuple_int, is_tuple_bool, is_tuple_str, is_tuple_list, is_tuple_tuple, is_dict_int, is_dict_bool, is_dict_str, is_dict_list, is_dict_tuple, isiDs, L2.atI, L2.ixN, big]; omega)]
        simp [evSs, evS, evE, evEs, evB, evC, evO, evP, evI, callD, argSl, argSls, bors, wb, frz, frzs, sees, R.see, lockS, unlockS, asgS, asgR, retR, setD, asgT, unlockO, backA, endF, nIf, nIfs, isAnd, truD, RD.r, binD, cmpD, biD, ixD, Mn.Loc, keyD, meD, recv, gtD, apD, ↓evS_fr, ↓evE_lc, ↓evE_srt, eq_ss, eq_ii, eq_is, eq_si, ok_b, ok_t, bt, tb, in_b, in_t, in_i, gd0, gd1, gd2, gd3, is_NoneType_int, is_NoneType_bool, is_NoneType_str, is_NoneType_list, is_NoneType_tuple, is_bool_int, is_bool_bool, is_bool_str, is_bool_list, is_bool_tuple, is_int_int, is_int_bool, is_int_str, is_int_list, is_int_tuple, is_str_int, is_str_bool, is_str_str, is_str_list, is_str_tuple, is_list_int, is_list_bool, is_list_str, is_list_list, is_list_tuple, is_tuple_int, is_tuple_bool, is_tuple_str, is_tuple_list, is_tuple_tuple, is_dict_int, is_dict_bool, is_dict_str, is_dict_list, is_dict_tuple, isiDs, L2.atI, L2.ixN, big, et, show ds.length < 1000000 by omega]
      · intro x hx
        simp [evSs, evS, evE, evEs, evB, evC, evO, evP, evI, callD, argSl, argSls, bors, wb, frz, frzs, sees, R.see, lockS, unlockS, asgS, asgR, retR, setD, asgT, unlockO, backA, endF, nIf, nIfs, isAnd, truD, RD.r, binD, cmpD, biD, ixD, Mn.Loc, keyD, meD, recv, gtD, apD, ↓evS_fr, ↓evE_lc, ↓evE_srt, eq_ss, eq_ii, eq_is, eq_si, ok_b, ok_t, bt, tb, in_b, in_t, in_i, gd0, gd1, gd2, gd3, is_NoneType_int, is_NoneType_bool, is_NoneType_str, is_NoneType_list, is_NoneType_tuple, is_bool_int, is_bool_bool, is_bool_str, is_bool_list, is_bool_tuple, is_int_int, is_int_bool, is_int_str, is_int_list, is_int_tuple, is_str_int, is_str_bool, is_str_str, is_str_list, is_str_tuple, is_list_int, is_list_bool, is_list_str, is_list_list, is_list_tuple, is_tuple_int, is_tuple_bool, is_tuple_str, is_tuple_list, is_tuple_tuple, is_dict_int, is_dict_bool, is_dict_str, is_dict_list, is_dict_tuple, isiDs, L2.atI, L2.ixN, big] at hx
        rcases hx with hx | rfl
        · exact e3 x hx
        · exact ht) (rngD 0 n.toNat) [] [.own p.w, .val (.int n), .own [], .un, .un] rfl ⟨p, [], .un, rfl, by simp [evSs, evS, evE, evEs, evB, evC, evO, evP, evI, callD, argSl, argSls, bors, wb, frz, frzs, sees, R.see, lockS, unlockS, asgS, asgR, retR, setD, asgT, unlockO, backA, endF, nIf, nIfs, isAnd, truD, RD.r, binD, cmpD, biD, ixD, Mn.Loc, keyD, meD, recv, gtD, apD, ↓evS_fr, ↓evE_lc, ↓evE_srt, eq_ss, eq_ii, eq_is, eq_si, ok_b, ok_t, bt, tb, in_b, in_t, in_i, gd0, gd1, gd2, gd3, is_NoneType_int, is_NoneType_bool, is_NoneType_str, is_NoneType_list, is_NoneType_tuple, is_bool_int, is_bool_bool, is_bool_str, is_bool_list, is_bool_tuple, is_int_int, is_int_bool, is_int_str, is_int_list, is_int_tuple, is_str_int, is_str_bool, is_str_str, is_str_list, is_str_tuple, is_list_int, is_list_bool, is_list_str, is_list_list, is_list_tuple, is_tuple_int, is_tuple_bool, is_tuple_str, is_tuple_list, is_tuple_tuple, is_dict_int, is_dict_bool, is_dict_str, is_dict_list, is_dict_tuple, isiDs, L2.atI, L2.ixN, big], by simp [evSs, evS, evE, evEs, evB, evC, evO, evP, evI, callD, argSl, argSls, bors, wb, frz, frzs, sees, R.see, lockS, unlockS, asgS, asgR, retR, setD, asgT, unlockO, backA, endF, nIf, nIfs, isAnd, truD, RD.r, binD, cmpD, biD, ixD, Mn.Loc, keyD, meD, recv, gtD, apD, ↓evS_fr, ↓evE_lc, ↓evE_srt, eq_ss, eq_ii, eq_is, eq_si, ok_b, ok_t, bt, tb, in_b, in_t, in_i, gd0, gd1, gd2, gd3, is_NoneType_int, is_NoneType_bool, is_NoneType_str, is_NoneType_list, is_NoneType_tuple, is_bool_int, is_bool_bool, is_bool_str, is_bool_list, is_bool_tuple, is_int_int, is_int_bool, is_int_str, is_int_list, is_int_tuple, is_str_int, is_str_bool, is_str_str, is_str_list, is_str_tuple, is_list_int, is_list_bool, is_list_str, is_list_list, is_list_tuple, is_tuple_int, is_tuple_bool, is_tuple_str, is_tuple_list, is_tuple_tuple, is_dict_int, is_dict_bool, is_dict_str, is_dict_list, is_dict_tuple, isiDs, L2.atI, L2.ixN, big], rfl⟩
  subst q2
  refine ⟨ds, q4, by rw [q5, rng_len], q1, ?_⟩
  rw [e]
  simp [evSs, evS, evE, evEs, evB, evC, evO, evP, evI, callD, argSl, argSls, bors, wb, frz, frzs, sees, R.see, lockS, unlockS, asgS, asgR, retR, setD, asgT, unlockO, backA, endF, nIf, nIfs, isAnd, truD, RD.r, binD, cmpD, biD, ixD, Mn.Loc, keyD, meD, recv, gtD, apD, ↓evS_fr, ↓evE_lc, ↓evE_srt, eq_ss, eq_ii, eq_is, eq_si, ok_b, ok_t, bt, tb, in_b, in_t, in_i, gd0, gd1, gd2, gd3, is_NoneType_int, is_NoneType_bool, is_NoneType_str, is_NoneType_list, is_NoneType_tuple, is_bool_int, is_bool_bool, is_bool_str, is_bool_list, is_bool_tuple, is_int_int, is_int_bool, is_int_str, is_int_list, is_int_tuple, is_str_int, is_str_bool, is_str_str, is_str_list, is_str_tuple, is_list_int, is_list_bool, is_list_str, is_list_list, is_list_tuple, is_tuple_int, is_tuple_bool, is_tuple_str, is_tuple_list, is_tuple_tuple, is_dict_int, is_dict_bool, is_dict_str, is_dict_list, is_dict_tuple, isiDs, L2.atI, L2.ixN, big]
theorem odd (k : Nat) (p : Pot) : ∃ d ∈ odds, ∃ p' : Pot, rn (k+3) 23 [.own p.w] = some (.ret (.val d) [.own p'.w]) := by
  obtain ⟨d, hd, e⟩ := pick k p (xs := odds) (by simp [evSs, evS, evE, evEs, evB, evC, evO, evP, evI, callD, argSl, argSls, bors, wb, frz, frzs, sees, R.see, lockS, unlockS, asgS, asgR, retR, setD, asgT, unlockO, backA, endF, nIf, nIfs, isAnd, truD, RD.r, binD, cmpD, biD, ixD, Mn.Loc, keyD, meD, recv, gtD, apD, ↓evS_fr, ↓evE_lc, ↓evE_srt, eq_ss, eq_ii, eq_is, eq_si, ok_b, ok_t, bt, tb, in_b, in_t, in_i, gd0, gd1, gd2, gd3, is_NoneType_int, is_NoneType_bool, is_NoneType_str, is_NoneType_list, is_NoneType_tuple, is_bool_int, is_bool_bool, is_bool_str, is_bool_list, is_bool_tuple, is_int_int, is_int_bool, is_int_str, is_int_list, is_int_tuple, is_str_int, is_str_bool, is_str_str, is_str_list, is_str_tuple, is_list_int, is_list_bool, is_list_str, is_list_list, is_list_tuple, is_tuple_int, is_tuple_bool, is_tuple_str, is_tuple_list, is_tuple_tuple, is_dict_int, is_dict_bool, is_dict_str, is_dict_list, is_dict_tuple, isiDs, L2.atI, L2.ixN, big, odds]) (by simp [evSs, evS, evE, evEs, evB, evC, evO, evP, evI, callD, argSl, argSls, bors, wb, frz, frzs, sees, R.see, lockS, unlockS, asgS, asgR, retR, setD, asgT, unlockO, backA, endF, nIf, nIfs, isAnd, truD, RD.r, binD, cmpD, biD, ixD, Mn.Loc, keyD, meD, recv, gtD, apD, ↓evS_fr, ↓evE_lc, ↓evE_srt, eq_ss, eq_ii, eq_is, eq_si, ok_b, ok_t, bt, tb, in_b, in_t, in_i, gd0, gd1, gd2, gd3, is_NoneType_int, is_NoneType_bool, is_NoneType_str, is_NoneType_list, is_NoneType_tuple, is_bool_int, is_bool_bool, is_bool_str, is_bool_list, is_bool_tuple, is_int_int, is_int_bool, is_int_str, is_int_list, is_int_tuple, is_str_int, is_str_bool, is_str_str, is_str_list, is_str_tuple, is_list_int, is_list_bool, is_list_str, is_list_list, is_list_tuple, is_tuple_int, is_tuple_bool, is_tuple_str, is_tuple_list, is_tuple_tuple, is_dict_int, is_dict_bool, is_dict_str, is_dict_list, is_dict_tuple, isiDs, L2.atI, L2.ixN, big, odds])
  refine ⟨d, hd, dn p 13, ?_⟩
  have l : odds.length = 13 := rfl
  rw [l] at e
  simp [evSs, evS, evE, evEs, evB, evC, evO, evP, evI, callD, argSl, argSls, bors, wb, frz, frzs, sees, R.see, lockS, unlockS, asgS, asgR, retR, setD, asgT, unlockO, backA, endF, nIf, nIfs, isAnd, truD, RD.r, binD, cmpD, biD, ixD, Mn.Loc, keyD, meD, recv, gtD, apD, ↓evS_fr, ↓evE_lc, ↓evE_srt, eq_ss, eq_ii, eq_is, eq_si, ok_b, ok_t, bt, tb, in_b, in_t, in_i, gd0, gd1, gd2, gd3, is_NoneType_int, is_NoneType_bool, is_NoneType_str, is_NoneType_list, is_NoneType_tuple, is_bool_int, is_bool_bool, is_bool_str, is_bool_list, is_bool_tuple, is_int_int, is_int_bool, is_int_str, is_int_list, is_int_tuple, is_str_int, is_str_bool, is_str_str, is_str_list, is_str_tuple, is_list_int, is_list_bool, is_list_str, is_list_list, is_list_tuple, is_tuple_int, is_tuple_bool, is_tuple_str, is_tuple_list, is_tuple_tuple, is_dict_int, is_dict_bool, is_dict_str, is_dict_list, is_dict_tuple, isiDs, L2.atI, L2.ixN, big, odds] at e
  simp [evSs, evS, evE, evEs, evB, evC, evO, evP, evI, callD, argSl, argSls, bors, wb, frz, frzs, sees, R.see, lockS, unlockS, asgS, asgR, retR, setD, asgT, unlockO, backA, endF, nIf, nIfs, isAnd, truD, RD.r, binD, cmpD, biD, ixD, Mn.Loc, keyD, meD, recv, gtD, apD, ↓evS_fr, ↓evE_lc, ↓evE_srt, eq_ss, eq_ii, eq_is, eq_si, ok_b, ok_t, bt, tb, in_b, in_t, in_i, gd0, gd1, gd2, gd3, is_NoneType_int, is_NoneType_bool, is_NoneType_str, is_NoneType_list, is_NoneType_tuple, is_bool_int, is_bool_bool, is_bool_str, is_bool_list, is_bool_tuple, is_int_int, is_int_bool, is_int_str, is_int_list, is_int_tuple, is_str_int, is_str_bool, is_str_str, is_str_list, is_str_tuple, is_list_int, is_list_bool, is_list_str, is_list_list, is_list_tuple, is_tuple_int, is_tuple_bool, is_tuple_str, is_tuple_list, is_tuple_tuple, is_dict_int, is_dict_bool, is_dict_str, is_dict_list, is_dict_tuple, isiDs, L2.atI, L2.ixN, big, fn23, b34, e]
/-! what is shown -/
structure Sh (n m : Nat) (d : D) : Prop where
  ok : d.shOk = true
  sw : d.py.showable = true
  len : d.py.shown.length ≤ n
  dep : d.py.depth ≤ m
  so : PyData.strOk d.py.shown = true
theorem Sh.shd {n m : Nat} {d : D} (h : Sh n m d) (hn : n ≤ 1000000) (hm : m ≤ 64) : shD d = some (.str d.py.shown) := by
  have h1 := h.len
  have h2 := h.dep
  unfold shD
  rw [if_pos]
  simp only [h.ok, h.sw, Bool.and_eq_true, decide_eq_true_eq, true_and]
  exact ⟨by show _ ≤ 1000000; omega, by omega⟩
theorem so_app {x y : Str} (h1 : PyData.strOk x = true) (h2 : PyData.strOk y = true) : PyData.strOk (x ++ y) = true := by
  unfold PyData.strOk at *
  rw [Array.all_eq_true_iff_forall_mem] at *
  intro c hc
  rcases Array.mem_append.mp (show c ∈ x.cps ++ y.cps from hc) with q | q
  · exact h1 c q
  · exact h2 c q
theorem so_ofs (s : String) : PyData.strOk (Str.ofString s) = true := by
  rw [Str.ofString_eq_toList]
  unfold PyData.strOk
  rw [Array.all_eq_true_iff_forall_mem]
  intro c hc
  simp [evSs, evS, evE, evEs, evB, evC, evO, evP, evI, callD, argSl, argSls, bors, wb, frz, frzs, sees, R.see, lockS, unlockS, asgS, asgR, retR, setD, asgT, unlockO, backA, endF, nIf, nIfs, isAnd, truD, RD.r, binD, cmpD, biD, ixD, Mn.Loc, keyD, meD, recv, gtD, apD, ↓evS_fr, ↓evE_lc, ↓evE_srt, eq_ss, eq_ii, eq_is, eq_si, ok_b, ok_t, bt, tb, in_b, in_t, in_i, gd0, gd1, gd2, gd3, is_NoneType_int, is_NoneType_bool, is_NoneType_str, is_NoneType_list, is_NoneType_tuple, is_bool_int, is_bool_bool, is_bool_str, is_bool_list, is_bool_tuple, is_int_int, is_int_bool, is_int_str, is_int_list, is_int_tuple, is_str_int, is_str_bool, is_str_str, is_str_list, is_str_tuple, is_list_int, is_list_bool, is_list_str, is_list_list, is_list_tuple, is_tuple_int, is_tuple_bool, is_tuple_str, is_tuple_list, is_tuple_tuple, is_dict_int, is_dict_bool, is_dict_str, is_dict_list, is_dict_tuple, isiDs, L2.atI, L2.ixN, big] at hc
  obtain ⟨ch, _, rfl⟩ := hc
  have h := ch.valid
  have e : ch.toNat = ch.val.toNat := rfl
  rw [e]
  simp only [UInt32.isValidChar, Nat.isValidChar] at h
  simp [evSs, evS, evE, evEs, evB, evC, evO, evP, evI, callD, argSl, argSls, bors, wb, frz, frzs, sees, R.see, lockS, unlockS, asgS, asgR, retR, setD, asgT, unlockO, backA, endF, nIf, nIfs, isAnd, truD, RD.r, binD, cmpD, biD, ixD, Mn.Loc, keyD, meD, recv, gtD, apD, ↓evS_fr, ↓evE_lc, ↓evE_srt, eq_ss, eq_ii, eq_is, eq_si, ok_b, ok_t, bt, tb, in_b, in_t, in_i, gd0, gd1, gd2, gd3, is_NoneType_int, is_NoneType_bool, is_NoneType_str, is_NoneType_list, is_NoneType_tuple, is_bool_int, is_bool_bool, is_bool_str, is_bool_list, is_bool_tuple, is_int_int, is_int_bool, is_int_str, is_int_list, is_int_tuple, is_str_int, is_str_bool, is_str_str, is_str_list, is_str_tuple, is_list_int, is_list_bool, is_list_str, is_list_list, is_list_tuple, is_tuple_int, is_tuple_bool, is_tuple_str, is_tuple_list, is_tuple_tuple, is_dict_int, is_dict_bool, is_dict_str, is_dict_list, is_dict_tuple, isiDs, L2.atI, L2.ixN, big]
  omega
theorem len_app (x y : Str) : (x ++ y).length = x.length + y.length := strLen_append x y
end K11

-- P11g
set_option Elab.async false
set_option linter.all false
set_option maxRecDepth 100000
set_option maxHeartbeats 4000000
set_option autoImplicit false
namespace K11
open PySem Mn
theorem so_tf : ∀ (ts : List Str) (k : Nat) (acc : Str), PyData.strOk acc = true → (∀ t ∈ ts, PyData.strOk t = true) → PyData.strOk (textFrom k acc ts) = true
  | [], _, _, h, _ => h
  | t :: ts, k, acc, h, ht => by
    refine so_tf ts (k+1) _ (so_app (so_app h ?_) (ht t (by simp [evSs, evS, evE, evEs, evB, evC, evO, evP, evI, callD, argSl, argSls, bors, wb, frz, frzs, sees, R.see, lockS, unlockS, asgS, asgR, retR, setD, asgT, unlockO, backA, endF, nIf, nIfs, isAnd, truD, RD.r, binD, cmpD, biD, ixD, Mn.Loc, keyD, meD, recv, gtD, apD, ↓evS_fr, ↓evE_lc, ↓evE_srt, eq_ss, eq_ii, eq_is, eq_si, ok_b, ok_t, bt, tb, in_b, in_t, in_i, gd0, gd1, gd2, gd3, is_NoneType_int, is_NoneType_bool, is_NoneType_str, is_NoneType_list, is_NoneType_tuple, is_bool_int, is_bool_bool, is_bool_str, is_bool_list, is_bool_tuple, is_int_int, is_int_bool, is_int_str, is_int_list, is_int_tuple, is_str_int, is_str_bool, is_str_str, is_str_list, is_str_tuple, is_list_int, is_list_bool, is_list_str, is_list_list, is_list_tuple, is_tuple_int, is_tuple_bool, is_tuple_str, is_tuple_list, is_tuple_tuple, is_dict_int, is_dict_bool, is_dict_str, is_dict_list, is_dict_tuple, isiDs, L2.atI, L2.ixN, big]))) fun x hx => ht x (by simp [evSs, evS, evE, evEs, evB, evC, evO, evP, evI, callD, argSl, argSls, bors, wb, frz, frzs, sees, R.see, lockS, unlockS, asgS, asgR, retR, setD, asgT, unlockO, backA, endF, nIf, nIfs, isAnd, truD, RD.r, binD, cmpD, biD, ixD, Mn.Loc, keyD, meD, recv, gtD, apD, ↓evS_fr, ↓evE_lc, ↓evE_srt, eq_ss, eq_ii, eq_is, eq_si, ok_b, ok_t, bt, tb, in_b, in_t, in_i, gd0, gd1, gd2, gd3, is_NoneType_int, is_NoneType_bool, is_NoneType_str, is_NoneType_list, is_NoneType_tuple, is_bool_int, is_bool_bool, is_bool_str, is_bool_list, is_bool_tuple, is_int_int, is_int_bool, is_int_str, is_int_list, is_int_tuple, is_str_int, is_str_bool, is_str_str, is_str_list, is_str_tuple, is_list_int, is_list_bool, is_list_str, is_list_list, is_list_tuple, is_tuple_int, is_tuple_bool, is_tuple_str, is_tuple_list, is_tuple_tuple, is_dict_int, is_dict_bool, is_dict_str, is_dict_list, is_dict_tuple, isiDs, L2.atI, L2.ixN, big, hx])
    exact so_ofs _
theorem len_tf (n : Nat) : ∀ (ts : List Str) (k : Nat) (acc : Str), (∀ t ∈ ts, t.length ≤ n) → (textFrom k acc ts).length ≤ acc.length + ts.length * (n + 2)
  | [], _, acc, _ => by show acc.length ≤ _; simp [evSs, evS, evE, evEs, evB, evC, evO, evP, evI, callD, argSl, argSls, bors, wb, frz, frzs, sees, R.see, lockS, unlockS, asgS, asgR, retR, setD, asgT, unlockO, backA, endF, nIf, nIfs, isAnd, truD, RD.r, binD, cmpD, biD, ixD, Mn.Loc, keyD, meD, recv, gtD, apD, ↓evS_fr, ↓evE_lc, ↓evE_srt, eq_ss, eq_ii, eq_is, eq_si, ok_b, ok_t, bt, tb, in_b, in_t, in_i, gd0, gd1, gd2, gd3, is_NoneType_int, is_NoneType_bool, is_NoneType_str, is_NoneType_list, is_NoneType_tuple, is_bool_int, is_bool_bool, is_bool_str, is_bool_list, is_bool_tuple, is_int_int, is_int_bool, is_int_str, is_int_list, is_int_tuple, is_str_int, is_str_bool, is_str_str, is_str_list, is_str_tuple, is_list_int, is_list_bool, is_list_str, is_list_list, is_list_tuple, is_tuple_int, is_tuple_bool, is_tuple_str, is_tuple_list, is_tuple_tuple, is_dict_int, is_dict_bool, is_dict_str, is_dict_list, is_dict_tuple, isiDs, L2.atI, L2.ixN, big]
  | t :: ts, k, acc, ht => by
    have h := len_tf n ts (k+1) (acc ++ (if k > 0 then ", " else "" : String) ++ t) fun x hx => ht x (by simp [evSs, evS, evE, evEs, evB, evC, evO, evP, evI, callD, argSl, argSls, bors, wb, frz, frzs, sees, R.see, lockS, unlockS, asgS, asgR, retR, setD, asgT, unlockO, backA, endF, nIf, nIfs, isAnd, truD, RD.r, binD, cmpD, biD, ixD, Mn.Loc, keyD, meD, recv, gtD, apD, ↓evS_fr, ↓evE_lc, ↓evE_srt, eq_ss, eq_ii, eq_is, eq_si, ok_b, ok_t, bt, tb, in_b, in_t, in_i, gd0, gd1, gd2, gd3, is_NoneType_int, is_NoneType_bool, is_NoneType_str, is_NoneType_list, is_NoneType_tuple, is_bool_int, is_bool_bool, is_bool_str, is_bool_list, is_bool_tuple, is_int_int, is_int_bool, is_int_str, is_int_list, is_int_tuple, is_str_int, is_str_bool, is_str_str, is_str_list, is_str_tuple, is_list_int, is_list_bool, is_list_str, is_list_list, is_list_tuple, is_tuple_int, is_tuple_bool, is_tuple_str, is_tuple_list, is_tuple_tuple, is_dict_int, is_dict_bool, is_dict_str, is_dict_list, is_dict_tuple, isiDs, L2.atI, L2.ixN, big, hx])
    rw [len_app, len_app] at h
    have h1 := ht t (by simp [evSs, evS, evE, evEs, evB, evC, evO, evP, evI, callD, argSl, argSls, bors, wb, frz, frzs, sees, R.see, lockS, unlockS, asgS, asgR, retR, setD, asgT, unlockO, backA, endF, nIf, nIfs, isAnd, truD, RD.r, binD, cmpD, biD, ixD, Mn.Loc, keyD, meD, recv, gtD, apD, ↓evS_fr, ↓evE_lc, ↓evE_srt, eq_ss, eq_ii, eq_is, eq_si, ok_b, ok_t, bt, tb, in_b, in_t, in_i, gd0, gd1, gd2, gd3, is_NoneType_int, is_NoneType_bool, is_NoneType_str, is_NoneType_list, is_NoneType_tuple, is_bool_int, is_bool_bool, is_bool_str, is_bool_list, is_bool_tuple, is_int_int, is_int_bool, is_int_str, is_int_list, is_int_tuple, is_str_int, is_str_bool, is_str_str, is_str_list, is_str_tuple, is_list_int, is_list_bool, is_list_str, is_list_list, is_list_tuple, is_tuple_int, is_tuple_bool, is_tuple_str, is_tuple_list, is_tuple_tuple, is_dict_int, is_dict_bool, is_dict_str, is_dict_list, is_dict_tuple, isiDs, L2.atI, L2.ixN, big])
    have h2 : (Str.ofString (if k > 0 then ", " else "")).length ≤ 2 := by split <;> decide
    simp only [List.length_cons, Nat.add_mul, Nat.one_mul]
    show (textFrom (k+1) (acc ++ (if k > 0 then ", " else "" : String) ++ t) ts).length ≤ _
    omega
theorem so_jn : ∀ ts : List Str, (∀ t ∈ ts, PyData.strOk t = true) → PyData.strOk (Str.join ", " ts) = true
  | [], _ => by decide +kernel
  | [x], h => h x (by simp [evSs, evS, evE, evEs, evB, evC, evO, evP, evI, callD, argSl, argSls, bors, wb, frz, frzs, sees, R.see, lockS, unlockS, asgS, asgR, retR, setD, asgT, unlockO, backA, endF, nIf, nIfs, isAnd, truD, RD.r, binD, cmpD, biD, ixD, Mn.Loc, keyD, meD, recv, gtD, apD, ↓evS_fr, ↓evE_lc, ↓evE_srt, eq_ss, eq_ii, eq_is, eq_si, ok_b, ok_t, bt, tb, in_b, in_t, in_i, gd0, gd1, gd2, gd3, is_NoneType_int, is_NoneType_bool, is_NoneType_str, is_NoneType_list, is_NoneType_tuple, is_bool_int, is_bool_bool, is_bool_str, is_bool_list, is_bool_tuple, is_int_int, is_int_bool, is_int_str, is_int_list, is_int_tuple, is_str_int, is_str_bool, is_str_str, is_str_list, is_str_tuple, is_list_int, is_list_bool, is_list_str, is_list_list, is_list_tuple, is_tuple_int, is_tuple_bool, is_tuple_str, is_tuple_list, is_tuple_tuple, is_dict_int, is_dict_bool, is_dict_str, is_dict_list, is_dict_tuple, isiDs, L2.atI, L2.ixN, big])
  | x :: y :: r, h => so_app (so_app (h x (by simp [evSs, evS, evE, evEs, evB, evC, evO, evP, evI, callD, argSl, argSls, bors, wb, frz, frzs, sees, R.see, lockS, unlockS, asgS, asgR, retR, setD, asgT, unlockO, backA, endF, nIf, nIfs, isAnd, truD, RD.r, binD, cmpD, biD, ixD, Mn.Loc, keyD, meD, recv, gtD, apD, ↓evS_fr, ↓evE_lc, ↓evE_srt, eq_ss, eq_ii, eq_is, eq_si, ok_b, ok_t, bt, tb, in_b, in_t, in_i, gd0, gd1, gd2, gd3, is_NoneType_int, is_NoneType_bool, is_NoneType_str, is_NoneType_list, is_NoneType_tuple, is_bool_int, is_bool_bool, is_bool_str, is_bool_list, is_bool_tuple, is_int_int, is_int_bool, is_int_str, is_int_list, is_int_tuple, is_str_int, is_str_bool, is_str_str, is_str_list, is_str_tuple, is_list_int, is_list_bool, is_list_str, is_list_list, is_list_tuple, is_tuple_int, is_tuple_bool, is_tuple_str, is_tuple_list, is_tuple_tuple, is_dict_int, is_dict_bool, is_dict_str, is_dict_list, is_dict_tuple, isiDs, L2.atI, L2.ixN, big])) (so_ofs _)) (so_jn (y :: r) fun z hz => h z (by simp [evSs, evS, evE, evEs, evB, evC, evO, evP, evI, callD, argSl, argSls, bors, wb, frz, frzs, sees, R.see, lockS, unlockS, asgS, asgR, retR, setD, asgT, unlockO, backA, endF, nIf, nIfs, isAnd, truD, RD.r, binD, cmpD, biD, ixD, Mn.Loc, keyD, meD, recv, gtD, apD, ↓evS_fr, ↓evE_lc, ↓evE_srt, eq_ss, eq_ii, eq_is, eq_si, ok_b, ok_t, bt, tb, in_b, in_t, in_i, gd0, gd1, gd2, gd3, is_NoneType_int, is_NoneType_bool, is_NoneType_str, is_NoneType_list, is_NoneType_tuple, is_bool_int, is_bool_bool, is_bool_str, is_bool_list, is_bool_tuple, is_int_int, is_int_bool, is_int_str, is_int_list, is_int_tuple, is_str_int, is_str_bool, is_str_str, is_str_list, is_str_tuple, is_list_int, is_list_bool, is_list_str, is_list_list, is_list_tuple, is_tuple_int, is_tuple_bool, is_tuple_str, is_tuple_list, is_tuple_tuple, is_dict_int, is_dict_bool, is_dict_str, is_dict_list, is_dict_tuple, isiDs, L2.atI, L2.ixN, big] at hz ⊢; exact .inr hz))
theorem len_jn (n : Nat) : ∀ ts : List Str, (∀ t ∈ ts, t.length ≤ n) → (Str.join ", " ts).length ≤ ts.length * (n + 2)
  | [], _ => by show 0 ≤ _; omega
  | [x], h => by
    have := h x (by simp [evSs, evS, evE, evEs, evB, evC, evO, evP, evI, callD, argSl, argSls, bors, wb, frz, frzs, sees, R.see, lockS, unlockS, asgS, asgR, retR, setD, asgT, unlockO, backA, endF, nIf, nIfs, isAnd, truD, RD.r, binD, cmpD, biD, ixD, Mn.Loc, keyD, meD, recv, gtD, apD, ↓evS_fr, ↓evE_lc, ↓evE_srt, eq_ss, eq_ii, eq_is, eq_si, ok_b, ok_t, bt, tb, in_b, in_t, in_i, gd0, gd1, gd2, gd3, is_NoneType_int, is_NoneType_bool, is_NoneType_str, is_NoneType_list, is_NoneType_tuple, is_bool_int, is_bool_bool, is_bool_str, is_bool_list, is_bool_tuple, is_int_int, is_int_bool, is_int_str, is_int_list, is_int_tuple, is_str_int, is_str_bool, is_str_str, is_str_list, is_str_tuple, is_list_int, is_list_bool, is_list_str, is_list_list, is_list_tuple, is_tuple_int, is_tuple_bool, is_tuple_str, is_tuple_list, is_tuple_tuple, is_dict_int, is_dict_bool, is_dict_str, is_dict_list, is_dict_tuple, isiDs, L2.atI, L2.ixN, big])
    show x.length ≤ _
    simp only [List.length_cons, List.length_nil]
    omega
  | x :: y :: r, h => by
    have h1 := h x (by simp [evSs, evS, evE, evEs, evB, evC, evO, evP, evI, callD, argSl, argSls, bors, wb, frz, frzs, sees, R.see, lockS, unlockS, asgS, asgR, retR, setD, asgT, unlockO, backA, endF, nIf, nIfs, isAnd, truD, RD.r, binD, cmpD, biD, ixD, Mn.Loc, keyD, meD, recv, gtD, apD, ↓evS_fr, ↓evE_lc, ↓evE_srt, eq_ss, eq_ii, eq_is, eq_si, ok_b, ok_t, bt, tb, in_b, in_t, in_i, gd0, gd1, gd2, gd3, is_NoneType_int, is_NoneType_bool, is_NoneType_str, is_NoneType_list, is_NoneType_tuple, is_bool_int, is_bool_bool, is_bool_str, is_bool_list, is_bool_tuple, is_int_int, is_int_bool, is_int_str, is_int_list, is_int_tuple, is_str_int, is_str_bool, is_str_str, is_str_list, is_str_tuple, is_list_int, is_list_bool, is_list_str, is_list_list, is_list_tuple, is_tuple_int, is_tuple_bool, is_tuple_str, is_tuple_list, is_tuple_tuple, is_dict_int, is_dict_bool, is_dict_str, is_dict_list, is_dict_tuple, isiDs, L2.atI, L2.ixN, big])
    have h2 := len_jn n (y :: r) fun z hz => h z (by simp [evSs, evS, evE, evEs, evB, evC, evO, evP, evI, callD, argSl, argSls, bors, wb, frz, frzs, sees, R.see, lockS, unlockS, asgS, asgR, retR, setD, asgT, unlockO, backA, endF, nIf, nIfs, isAnd, truD, RD.r, binD, cmpD, biD, ixD, Mn.Loc, keyD, meD, recv, gtD, apD, ↓evS_fr, ↓evE_lc, ↓evE_srt, eq_ss, eq_ii, eq_is, eq_si, ok_b, ok_t, bt, tb, in_b, in_t, in_i, gd0, gd1, gd2, gd3, is_NoneType_int, is_NoneType_bool, is_NoneType_str, is_NoneType_list, is_NoneType_tuple, is_bool_int, is_bool_bool, is_bool_str, is_bool_list, is_bool_tuple, is_int_int, is_int_bool, is_int_str, is_int_list, is_int_tuple, is_str_int, is_str_bool, is_str_str, is_str_list, is_str_tuple, is_list_int, is_list_bool, is_list_str, is_list_list, is_list_tuple, is_tuple_int, is_tuple_bool, is_tuple_str, is_tuple_list, is_tuple_tuple, is_dict_int, is_dict_bool, is_dict_str, is_dict_list, is_dict_tuple, isiDs, L2.atI, L2.ixN, big] at hz ⊢; exact .inr hz)
    show (x ++ ", " ++ Str.join ", " (y :: r)).length ≤ _
    rw [len_app, len_app]
    have h3 : (Str.ofString ", ").length = 2 := by decide
    rw [List.length_cons, Nat.add_mul, Nat.one_mul]
    omega
theorem shs {n m : Nat} : ∀ ds : List D, (∀ d ∈ ds, Sh n m d) → shOks ds = true ∧ PyData.showableAll (pys ds) = true ∧ (∀ t ∈ PyData.shownAll (pys ds), t.length ≤ n ∧ PyData.strOk t = true) ∧ (PyData.shownAll (pys ds)).length = ds.length ∧ PyData.depthAll (pys ds) ≤ m
  | [], _ => ⟨rfl, rfl, by simp [evSs, evS, evE, evEs, evB, evC, evO, evP, evI, callD, argSl, argSls, bors, wb, frz, frzs, sees, R.see, lockS, unlockS, asgS, asgR, retR, setD, asgT, unlockO, backA, endF, nIf, nIfs, isAnd, truD, RD.r, binD, cmpD, biD, ixD, Mn.Loc, keyD, meD, recv, gtD, apD, ↓evS_fr, ↓evE_lc, ↓evE_srt, eq_ss, eq_ii, eq_is, eq_si, ok_b, ok_t, bt, tb, in_b, in_t, in_i, gd0, gd1, gd2, gd3, is_NoneType_int, is_NoneType_bool, is_NoneType_str, is_NoneType_list, is_NoneType_tuple, is_bool_int, is_bool_bool, is_bool_str, is_bool_list, is_bool_tuple, is_int_int, is_int_bool, is_int_str, is_int_list, is_int_tuple, is_str_int, is_str_bool, is_str_str, is_str_list, is_str_tuple, is_list_int, is_list_bool, is_list_str, is_list_list, is_list_tuple, is_tuple_int, is_tuple_bool, is_tuple_str, is_tuple_list, is_tuple_tuple, is_dict_int, is_dict_bool, is_dict_str, is_dict_list, is_dict_tuple, isiDs, L2.atI, L2.ixN, big, pys, PyData.shownAll], rfl, by simp [evSs, evS, evE, evEs, evB, evC, evO, evP, evI, callD, argSl, argSls, bors, wb, frz, frzs, sees, R.see, lockS, unlockS, asgS, asgR, retR, setD, asgT, unlockO, backA, endF, nIf, nIfs, isAnd, truD, RD.r, binD, cmpD, biD, ixD, Mn.Loc, keyD, meD, recv, gtD, apD, ↓evS_fr, ↓evE_lc, ↓evE_srt, eq_ss, eq_ii, eq_is, eq_si, ok_b, ok_t, bt, tb, in_b, in_t, in_i, gd0, gd1, gd2, gd3, is_NoneType_int, is_NoneType_bool, is_NoneType_str, is_NoneType_list, is_NoneType_tuple, is_bool_int, is_bool_bool, is_bool_str, is_bool_list, is_bool_tuple, is_int_int, is_int_bool, is_int_str, is_int_list, is_int_tuple, is_str_int, is_str_bool, is_str_str, is_str_list, is_str_tuple, is_list_int, is_list_bool, is_list_str, is_list_list, is_list_tuple, is_tuple_int, is_tuple_bool, is_tuple_str, is_tuple_list, is_tuple_tuple, is_dict_int, is_dict_bool, is_dict_str, is_dict_list, is_dict_tuple, isiDs, L2.atI, L2.ixN, big, pys, PyData.depthAll]⟩
  | d :: ds, h => by
    have h0 := h d (by simp [evSs, evS, evE, evEs, evB, evC, evO, evP, evI, callD, argSl, argSls, bors, wb, frz, frzs, sees, R.see, lockS, unlockS, asgS, asgR, retR, setD, asgT, unlockO, backA, endF, nIf, nIfs, isAnd, truD, RD.r, binD, cmpD, biD, ixD, Mn.Loc, keyD, meD, recv, gtD, apD, ↓evS_fr, ↓evE_lc, ↓evE_srt, eq_ss, eq_ii, eq_is, eq_si, ok_b, ok_t, bt, tb, in_b, in_t, in_i, gd0, gd1, gd2, gd3, is_NoneType_int, is_NoneType_bool, is_NoneType_str, is_NoneType_list, is_NoneType_tuple, is_bool_int, is_bool_bool, is_bool_str, is_bool_list, is_bool_tuple, is_int_int, is_int_bool, is_int_str, is_int_list, is_int_tuple, is_str_int, is_str_bool, is_str_str, is_str_list, is_str_tuple, is_list_int, is_list_bool, is_list_str, is_list_list, is_list_tuple, is_tuple_int, is_tuple_bool, is_tuple_str, is_tuple_list, is_tuple_tuple, is_dict_int, is_dict_bool, is_dict_str, is_dict_list, is_dict_tuple, isiDs, L2.atI, L2.ixN, big])
    obtain ⟨h1, h2, h3, h4, h5⟩ := shs ds fun x hx => h x (by simp [evSs, evS, evE, evEs, evB, evC, evO, evP, evI, callD, argSl, argSls, bors, wb, frz, frzs, sees, R.see, lockS, unlockS, asgS, asgR, retR, setD, asgT, unlockO, backA, endF, nIf, nIfs, isAnd, truD, RD.r, binD, cmpD, biD, ixD, Mn.Loc, keyD, meD, recv, gtD, apD, ↓evS_fr, ↓evE_lc, ↓evE_srt, eq_ss, eq_ii, eq_is, eq_si, ok_b, ok_t, bt, tb, in_b, in_t, in_i, gd0, gd1, gd2, gd3, is_NoneType_int, is_NoneType_bool, is_NoneType_str, is_NoneType_list, is_NoneType_tuple, is_bool_int, is_bool_bool, is_bool_str, is_bool_list, is_bool_tuple, is_int_int, is_int_bool, is_int_str, is_int_list, is_int_tuple, is_str_int, is_str_bool, is_str_str, is_str_list, is_str_tuple, is_list_int, is_list_bool, is_list_str, is_list_list, is_list_tuple, is_tuple_int, is_tuple_bool, is_tuple_str, is_tuple_list, is_tuple_tuple, is_dict_int, is_dict_bool, is_dict_str, is_dict_list, is_dict_tuple, isiDs, L2.atI, L2.ixN, big, hx])
    refine ⟨by simp [evSs, evS, evE, evEs, evB, evC, evO, evP, evI, callD, argSl, argSls, bors, wb, frz, frzs, sees, R.see, lockS, unlockS, asgS, asgR, retR, setD, asgT, unlockO, backA, endF, nIf, nIfs, isAnd, truD, RD.r, binD, cmpD, biD, ixD, Mn.Loc, keyD, meD, recv, gtD, apD, ↓evS_fr, ↓evE_lc, ↓evE_srt, eq_ss, eq_ii, eq_is, eq_si, ok_b, ok_t, bt, tb, in_b, in_t, in_i, gd0, gd1, gd2, gd3, is_NoneType_int, is_NoneType_bool, is_NoneType_str, is_NoneType_list, is_NoneType_tuple, is_bool_int, is_bool_bool, is_bool_str, is_bool_list, is_bool_tuple, is_int_int, is_int_bool, is_int_str, is_int_list, is_int_tuple, is_str_int, is_str_bool, is_str_str, is_str_list, is_str_tuple, is_list_int, is_list_bool, is_list_str, is_list_list, is_list_tuple, is_tuple_int, is_tuple_bool, is_tuple_str, is_tuple_list, is_tuple_tuple, is_dict_int, is_dict_bool, is_dict_str, is_dict_list, is_dict_tuple, isiDs, L2.atI, L2.ixN, big, shOks, h0.ok, h1], by simp [evSs, evS, evE, evEs, evB, evC, evO, evP, evI, callD, argSl, argSls, bors, wb, frz, frzs, sees, R.see, lockS, unlockS, asgS, asgR, retR, setD, asgT, unlockO, backA, endF, nIf, nIfs, isAnd, truD, RD.r, binD, cmpD, biD, ixD, Mn.Loc, keyD, meD, recv, gtD, apD, ↓evS_fr, ↓evE_lc, ↓evE_srt, eq_ss, eq_ii, eq_is, eq_si, ok_b, ok_t, bt, tb, in_b, in_t, in_i, gd0, gd1, gd2, gd3, is_NoneType_int, is_NoneType_bool, is_NoneType_str, is_NoneType_list, is_NoneType_tuple, is_bool_int, is_bool_bool, is_bool_str, is_bool_list, is_bool_tuple, is_int_int, is_int_bool, is_int_str, is_int_list, is_int_tuple, is_str_int, is_str_bool, is_str_str, is_str_list, is_str_tuple, is_list_int, is_list_bool, is_list_str, is_list_list, is_list_tuple, is_tuple_int, is_tuple_bool, is_tuple_str, is_tuple_list, is_tuple_tuple, is_dict_int, is_dict_bool, is_dict_str, is_dict_list, is_dict_tuple, isiDs, L2.atI, L2.ixN, big, pys, PyData.showableAll, h0.sw, h2], ?_, by simp [evSs, evS, evE, evEs, evB, evC, evO, evP, evI, callD, argSl, argSls, bors, wb, frz, frzs, sees, R.see, lockS, unlockS, asgS, asgR, retR, setD, asgT, unlockO, backA, endF, nIf, nIfs, isAnd, truD, RD.r, binD, cmpD, biD, ixD, Mn.Loc, keyD, meD, recv, gtD, apD, ↓evS_fr, ↓evE_lc, ↓evE_srt, eq_ss, eq_ii, eq_is, eq_si, ok_b, ok_t, bt, tb, in_b, in_t, in_i, gd0, gd1, gd2, gd3, is_NoneType_int, is_NoneType_bool, is_NoneType_str, is_NoneType_list, is_NoneType_tuple, is_bool_int, is_bool_bool, is_bool_str, is_bool_list, is_bool_tuple, is_int_int, is_int_bool, is_int_str, is_int_list, is_int_tuple, is_str_int, is_str_bool, is_str_str, is_str_list, is_str_tuple, is_list_int, is_list_bool, is_list_str, is_list_list, is_list_tuple, is_tuple_int, is_tuple_bool, is_tuple_str, is_tuple_list, is_tuple_tuple, is_dict_int, is_dict_bool, is_dict_str, is_dict_list, is_dict_tuple, isiDs, L2.atI, L2.ixN, big, pys, PyData.shownAll, h4], ?_⟩
    · intro t ht
      simp only [pys, PyData.shownAll, List.mem_cons] at ht
      rcases ht with rfl | ht
      · exact ⟨h0.len, h0.so⟩
      · exact h3 t ht
    · have := h0.dep
      simp only [pys, PyData.depthAll]
      omega
theorem Sh.lst {n m : Nat} {ds : List D} (h : ∀ d ∈ ds, Sh n m d) : Sh (ds.length * (n + 2) + 2) (m + 1) (.lst ds) := by
  obtain ⟨h1, h2, h3, h4, h5⟩ := shs ds h
  refine ⟨by simp [evSs, evS, evE, evEs, evB, evC, evO, evP, evI, callD, argSl, argSls, bors, wb, frz, frzs, sees, R.see, lockS, unlockS, asgS, asgR, retR, setD, asgT, unlockO, backA, endF, nIf, nIfs, isAnd, truD, RD.r, binD, cmpD, biD, ixD, Mn.Loc, keyD, meD, recv, gtD, apD, ↓evS_fr, ↓evE_lc, ↓evE_srt, eq_ss, eq_ii, eq_is, eq_si, ok_b, ok_t, bt, tb, in_b, in_t, in_i, gd0, gd1, gd2, gd3, is_NoneType_int, is_NoneType_bool, is_NoneType_str, is_NoneType_list, is_NoneType_tuple, is_bool_int, is_bool_bool, is_bool_str, is_bool_list, is_bool_tuple, is_int_int, is_int_bool, is_int_str, is_int_list, is_int_tuple, is_str_int, is_str_bool, is_str_str, is_str_list, is_str_tuple, is_list_int, is_list_bool, is_list_str, is_list_list, is_list_tuple, is_tuple_int, is_tuple_bool, is_tuple_str, is_tuple_list, is_tuple_tuple, is_dict_int, is_dict_bool, is_dict_str, is_dict_list, is_dict_tuple, isiDs, L2.atI, L2.ixN, big, D.shOk, h1], by simp [evSs, evS, evE, evEs, evB, evC, evO, evP, evI, callD, argSl, argSls, bors, wb, frz, frzs, sees, R.see, lockS, unlockS, asgS, asgR, retR, setD, asgT, unlockO, backA, endF, nIf, nIfs, isAnd, truD, RD.r, binD, cmpD, biD, ixD, Mn.Loc, keyD, meD, recv, gtD, apD, ↓evS_fr, ↓evE_lc, ↓evE_srt, eq_ss, eq_ii, eq_is, eq_si, ok_b, ok_t, bt, tb, in_b, in_t, in_i, gd0, gd1, gd2, gd3, is_NoneType_int, is_NoneType_bool, is_NoneType_str, is_NoneType_list, is_NoneType_tuple, is_bool_int, is_bool_bool, is_bool_str, is_bool_list, is_bool_tuple, is_int_int, is_int_bool, is_int_str, is_int_list, is_int_tuple, is_str_int, is_str_bool, is_str_str, is_str_list, is_str_tuple, is_list_int, is_list_bool, is_list_str, is_list_list, is_list_tuple, is_tuple_int, is_tuple_bool, is_tuple_str, is_tuple_list, is_tuple_tuple, is_dict_int, is_dict_bool, is_dict_str, is_dict_list, is_dict_tuple, isiDs, L2.atI, L2.ixN, big, D.py, PyData.showable, h2], ?_, by simp [evSs, evS, evE, evEs, evB, evC, evO, evP, evI, callD, argSl, argSls, bors, wb, frz, frzs, sees, R.see, lockS, unlockS, asgS, asgR, retR, setD, asgT, unlockO, backA, endF, nIf, nIfs, isAnd, truD, RD.r, binD, cmpD, biD, ixD, Mn.Loc, keyD, meD, recv, gtD, apD, ↓evS_fr, ↓evE_lc, ↓evE_srt, eq_ss, eq_ii, eq_is, eq_si, ok_b, ok_t, bt, tb, in_b, in_t, in_i, gd0, gd1, gd2, gd3, is_NoneType_int, is_NoneType_bool, is_NoneType_str, is_NoneType_list, is_NoneType_tuple, is_bool_int, is_bool_bool, is_bool_str, is_bool_list, is_bool_tuple, is_int_int, is_int_bool, is_int_str, is_int_list, is_int_tuple, is_str_int, is_str_bool, is_str_str, is_str_list, is_str_tuple, is_list_int, is_list_bool, is_list_str, is_list_list, is_list_tuple, is_tuple_int, is_tuple_bool, is_tuple_str, is_tuple_list, is_tuple_tuple, is_dict_int, is_dict_bool, is_dict_str, is_dict_list, is_dict_tuple, isiDs, L2.atI, L2.ixN, big, D.py, PyData.depth, h5], ?_⟩
  · simp only [D.py, PyData.shown, listText]
    rw [len_app]
    have := len_tf n _ 0 "[" fun t ht => (h3 t ht).1
    rw [h4] at this
    have e1 : (Str.ofString "[").length = 1 := by decide
    have e2 : (Str.ofString "]").length = 1 := by decide
    omega
  · simp only [D.py, PyData.shown, listText]
    exact so_app (so_tf _ _ _ (so_ofs _) fun t ht => (h3 t ht).2) (so_ofs _)
theorem Sh.tup {n m : Nat} {ds : List D} (h : ∀ d ∈ ds, Sh n m d) : Sh (ds.length * (n + 2) + 3) (m + 1) (.tup ds) := by
  obtain ⟨h1, h2, h3, h4, h5⟩ := shs ds h
  refine ⟨by simp [evSs, evS, evE, evEs, evB, evC, evO, evP, evI, callD, argSl, argSls, bors, wb, frz, frzs, sees, R.see, lockS, unlockS, asgS, asgR, retR, setD, asgT, unlockO, backA, endF, nIf, nIfs, isAnd, truD, RD.r, binD, cmpD, biD, ixD, Mn.Loc, keyD, meD, recv, gtD, apD, ↓evS_fr, ↓evE_lc, ↓evE_srt, eq_ss, eq_ii, eq_is, eq_si, ok_b, ok_t, bt, tb, in_b, in_t, in_i, gd0, gd1, gd2, gd3, is_NoneType_int, is_NoneType_bool, is_NoneType_str, is_NoneType_list, is_NoneType_tuple, is_bool_int, is_bool_bool, is_bool_str, is_bool_list, is_bool_tuple, is_int_int, is_int_bool, is_int_str, is_int_list, is_int_tuple, is_str_int, is_str_bool, is_str_str, is_str_list, is_str_tuple, is_list_int, is_list_bool, is_list_str, is_list_list, is_list_tuple, is_tuple_int, is_tuple_bool, is_tuple_str, is_tuple_list, is_tuple_tuple, is_dict_int, is_dict_bool, is_dict_str, is_dict_list, is_dict_tuple, isiDs, L2.atI, L2.ixN, big, D.shOk, h1], by simp [evSs, evS, evE, evEs, evB, evC, evO, evP, evI, callD, argSl, argSls, bors, wb, frz, frzs, sees, R.see, lockS, unlockS, asgS, asgR, retR, setD, asgT, unlockO, backA, endF, nIf, nIfs, isAnd, truD, RD.r, binD, cmpD, biD, ixD, Mn.Loc, keyD, meD, recv, gtD, apD, ↓evS_fr, ↓evE_lc, ↓evE_srt, eq_ss, eq_ii, eq_is, eq_si, ok_b, ok_t, bt, tb, in_b, in_t, in_i, gd0, gd1, gd2, gd3, is_NoneType_int, is_NoneType_bool, is_NoneType_str, is_NoneType_list, is_NoneType_tuple, is_bool_int, is_bool_bool, is_bool_str, is_bool_list, is_bool_tuple, is_int_int, is_int_bool, is_int_str, is_int_list, is_int_tuple, is_str_int, is_str_bool, is_str_str, is_str_list, is_str_tuple, is_list_int, is_list_bool, is_list_str, is_list_list, is_list_tuple, is_tuple_int, is_tuple_bool, is_tuple_str, is_tuple_list, is_tuple_tuple, is_dict_int, is_dict_bool, is_dict_str, is_dict_list, is_dict_tuple, isiDs, L2.atI, L2.ixN, big, D.py, PyData.showable, h2], ?_, by simp [evSs, evS, evE, evEs, evB, evC, evO, evP, evI, callD, argSl, argSls, bors, wb, frz, frzs, sees, R.see, lockS, unlockS, asgS, asgR, retR, setD, asgT, unlockO, backA, endF, nIf, nIfs, isAnd, truD, RD.r, binD, cmpD, biD, ixD, Mn.Loc, keyD, meD, recv, gtD, apD, ↓evS_fr, ↓evE_lc, ↓evE_srt, eq_ss, eq_ii, eq_is, eq_si, ok_b, ok_t, bt, tb, in_b, in_t, in_i, gd0, gd1, gd2, gd3, is_NoneType_int, is_NoneType_bool, is_NoneType_str, is_NoneType_list, is_NoneType_tuple, is_bool_int, is_bool_bool, is_bool_str, is_bool_list, is_bool_tuple, is_int_int, is_int_bool, is_int_str, is_int_list, is_int_tuple, is_str_int, is_str_bool, is_str_str, is_str_list, is_str_tuple, is_list_int, is_list_bool, is_list_str, is_list_list, is_list_tuple, is_tuple_int, is_tuple_bool, is_tuple_str, is_tuple_list, is_tuple_tuple, is_dict_int, is_dict_bool, is_dict_str, is_dict_list, is_dict_tuple, isiDs, L2.atI, L2.ixN, big, D.py, PyData.depth, h5], ?_⟩
  · simp only [D.py, PyData.shown, tupleText]
    rw [len_app, len_app]
    have := len_jn n _ fun t ht => (h3 t ht).1
    rw [h4] at this ⊢
    have e1 : (Str.ofString "(").length = 1 := by decide
    have e2 : (Str.ofString (if (ds.length == 1) = true then ",)" else ")")).length ≤ 2 := by split <;> decide
    omega
  · simp only [D.py, PyData.shown, tupleText]
    exact so_app (so_app (so_ofs _) (so_jn _ fun t ht => (h3 t ht).2)) (so_ofs _)
theorem Sh.mono {n m n' m' : Nat} {d : D} (h : Sh n m d) (a : n ≤ n') (b : m ≤ m') : Sh n' m' d := ⟨h.ok, h.sw, Nat.le_trans h.len a, Nat.le_trans h.dep b, h.so⟩
theorem len_ofs (s : String) : (Str.ofString s).length = s.toList.length := by
  rw [Str.ofString_eq_toList]
  show (s.toList.map Char.toNat).toArray.size = _
  simp [evSs, evS, evE, evEs, evB, evC, evO, evP, evI, callD, argSl, argSls, bors, wb, frz, frzs, sees, R.see, lockS, unlockS, asgS, asgR, retR, setD, asgT, unlockO, backA, endF, nIf, nIfs, isAnd, truD, RD.r, binD, cmpD, biD, ixD, Mn.Loc, keyD, meD, recv, gtD, apD, ↓evS_fr, ↓evE_lc, ↓evE_srt, eq_ss, eq_ii, eq_is, eq_si, ok_b, ok_t, bt, tb, in_b, in_t, in_i, gd0, gd1, gd2, gd3, is_NoneType_int, is_NoneType_bool, is_NoneType_str, is_NoneType_list, is_NoneType_tuple, is_bool_int, is_bool_bool, is_bool_str, is_bool_list, is_bool_tuple, is_int_int, is_int_bool, is_int_str, is_int_list, is_int_tuple, is_str_int, is_str_bool, is_str_str, is_str_list, is_str_tuple, is_list_int, is_list_bool, is_list_str, is_list_list, is_list_tuple, is_tuple_int, is_tuple_bool, is_tuple_str, is_tuple_list, is_tuple_tuple, is_dict_int, is_dict_bool, is_dict_str, is_dict_list, is_dict_tuple, isiDs, L2.atI, L2.ixN, big]
theorem dig_len {n : Nat} (h : n < 10 ^ 63) : (Nat.repr n).toList.length ≤ 63 := by
  have := digitsCore_len_pow 10 (by decide) 63 (n+1) n [] (by decide) h
  simp [evSs, evS, evE, evEs, evB, evC, evO, evP, evI, callD, argSl, argSls, bors, wb, frz, frzs, sees, R.see, lockS, unlockS, asgS, asgR, retR, setD, asgT, unlockO, backA, endF, nIf, nIfs, isAnd, truD, RD.r, binD, cmpD, biD, ixD, Mn.Loc, keyD, meD, recv, gtD, apD, ↓evS_fr, ↓evE_lc, ↓evE_srt, eq_ss, eq_ii, eq_is, eq_si, ok_b, ok_t, bt, tb, in_b, in_t, in_i, gd0, gd1, gd2, gd3, is_NoneType_int, is_NoneType_bool, is_NoneType_str, is_NoneType_list, is_NoneType_tuple, is_bool_int, is_bool_bool, is_bool_str, is_bool_list, is_bool_tuple, is_int_int, is_int_bool, is_int_str, is_int_list, is_int_tuple, is_str_int, is_str_bool, is_str_str, is_str_list, is_str_tuple, is_list_int, is_list_bool, is_list_str, is_list_list, is_list_tuple, is_tuple_int, is_tuple_bool, is_tuple_str, is_tuple_list, is_tuple_tuple, is_dict_int, is_dict_bool, is_dict_str, is_dict_list, is_dict_tuple, isiDs, L2.atI, L2.ixN, big] at this
  unfold Nat.repr
  rw [String.toList_ofList]
  exact this
theorem Th.sh {d : D} (h : Th d) : Sh 70 0 d := by
  cases h with
  | bot => exact ⟨rfl, rfl, by decide +kernel, by decide +kernel, by decide +kernel⟩
  | top => exact ⟨rfl, rfl, by decide +kernel, by decide +kernel, by decide +kernel⟩
  | int i h1 h2 =>
    have e1 : (10 : Int) ^ 62 = 100000000000000000000000000000000000000000000000000000000000000 := by decide +kernel
    rw [e1] at h1 h2
    refine ⟨rfl, ?_, ?_, Nat.le_refl 0, so_ofs _⟩
    · show decide (i.natAbs.log2 < 1920) = true
      rw [decide_eq_true_eq]
      by_cases z : i.natAbs = 0
      · rw [z]; decide
      · rw [Nat.log2_lt z]
        have : i.natAbs < 2 ^ 210 := by
          have e : 2 ^ 210 = 1645504557321206042154969182557350504982735865633579863348609024 := by decide +kernel
          rw [e]
          omega
        exact Nat.lt_of_lt_of_le this (Nat.pow_le_pow_right (by decide) (by decide))
    · show (Str.ofString (toString i)).length ≤ 70
      rw [len_ofs]
      have e2 : 10 ^ 63 = 1000000000000000000000000000000000000000000000000000000000000000 := by decide +kernel
      cases i with
      | ofNat n =>
        have : n < 10 ^ 63 := by rw [e2]; simp [evSs, evS, evE, evEs, evB, evC, evO, evP, evI, callD, argSl, argSls, bors, wb, frz, frzs, sees, R.see, lockS, unlockS, asgS, asgR, retR, setD, asgT, unlockO, backA, endF, nIf, nIfs, isAnd, truD, RD.r, binD, cmpD, biD, ixD, Mn.Loc, keyD, meD, recv, gtD, apD, ↓evS_fr, ↓evE_lc, ↓evE_srt, eq_ss, eq_ii, eq_is, eq_si, ok_b, ok_t, bt, tb, in_b, in_t, in_i, gd0, gd1, gd2, gd3, is_NoneType_int, is_NoneType_bool, is_NoneType_str, is_NoneType_list, is_NoneType_tuple, is_bool_int, is_bool_bool, is_bool_str, is_bool_list, is_bool_tuple, is_int_int, is_int_bool, is_int_str, is_int_list, is_int_tuple, is_str_int, is_str_bool, is_str_str, is_str_list, is_str_tuple, is_list_int, is_list_bool, is_list_str, is_list_list, is_list_tuple, is_tuple_int, is_tuple_bool, is_tuple_str, is_tuple_list, is_tuple_tuple, is_dict_int, is_dict_bool, is_dict_str, is_dict_list, is_dict_tuple, isiDs, L2.atI, L2.ixN, big] at h2; omega
        have := dig_len this
        show (Nat.repr n).toList.length ≤ 70
        omega
      | negSucc n =>
        have : n + 1 < 10 ^ 63 := by rw [e2]; omega
        have := dig_len this
        show ("-" ++ Nat.repr (n+1)).toList.length ≤ 70
        rw [String.toList_append, List.length_append]
        have e3 : ("-" : String).toList.length = 1 := by decide
        omega
theorem bl_sh (b : Bool) : Sh 70 0 (.bl b) := by
  cases b <;> exact ⟨rfl, rfl, by decide +kernel, by decide +kernel, by decide +kernel⟩
theorem odd_sh {d : D} (h : d ∈ odds) : Sh 70 3 d := by
  have q : ∀ d ∈ odds, d.shOk = true ∧ d.py.showable = true ∧ d.py.shown.length ≤ 70 ∧ d.py.depth ≤ 3 ∧ PyData.strOk d.py.shown = true := by decide +kernel
  obtain ⟨h1, h2, h3, h4, h5⟩ := q d h
  exact ⟨h1, h2, h3, h4, h5⟩
end K11

-- P11h
set_option Elab.async false
set_option linter.all false
set_option maxRecDepth 100000
set_option maxHeartbeats 4000000
set_option autoImplicit false
namespace K11
open PySem Mn
theorem ext0 (k : Nat) {ds : List D} {v w : D} (l : ds.length ≤ 4) (e : rn (k+4) 12 (ds.map .val) = some (.ret (.val v) (ds.map .val))) (e0 : rn (k+4) 13 [] = some (.ret (.val w) [])) :
    rn (k+5) 24 [.val (.int 0), .own ds] = some (.ret (.val v) [.val (.int 0), .own ds]) := by
  match ds, l with
  | [], _ => simp [evSs, evS, evE, evEs, evB, evC, evO, evP, evI, callD, argSl, argSls, bors, wb, frz, frzs, sees, R.see, lockS, unlockS, asgS, asgR, retR, setD, asgT, unlockO, backA, endF, nIf, nIfs, isAnd, truD, RD.r, binD, cmpD, biD, ixD, Mn.Loc, keyD, meD, recv, gtD, apD, ↓evS_fr, ↓evE_lc, ↓evE_srt, eq_ss, eq_ii, eq_is, eq_si, ok_b, ok_t, bt, tb, in_b, in_t, in_i, gd0, gd1, gd2, gd3, is_NoneType_int, is_NoneType_bool, is_NoneType_str, is_NoneType_list, is_NoneType_tuple, is_bool_int, is_bool_bool, is_bool_str, is_bool_list, is_bool_tuple, is_int_int, is_int_bool, is_int_str, is_int_list, is_int_tuple, is_str_int, is_str_bool, is_str_str, is_str_list, is_str_tuple, is_list_int, is_list_bool, is_list_str, is_list_list, is_list_tuple, is_tuple_int, is_tuple_bool, is_tuple_str, is_tuple_list, is_tuple_tuple, is_dict_int, is_dict_bool, is_dict_str, is_dict_list, is_dict_tuple, isiDs, L2.atI, L2.ixN, big] at e; simp [evSs, evS, evE, evEs, evB, evC, evO, evP, evI, callD, argSl, argSls, bors, wb, frz, frzs, sees, R.see, lockS, unlockS, asgS, asgR, retR, setD, asgT, unlockO, backA, endF, nIf, nIfs, isAnd, truD, RD.r, binD, cmpD, biD, ixD, Mn.Loc, keyD, meD, recv, gtD, apD, ↓evS_fr, ↓evE_lc, ↓evE_srt, eq_ss, eq_ii, eq_is, eq_si, ok_b, ok_t, bt, tb, in_b, in_t, in_i, gd0, gd1, gd2, gd3, is_NoneType_int, is_NoneType_bool, is_NoneType_str, is_NoneType_list, is_NoneType_tuple, is_bool_int, is_bool_bool, is_bool_str, is_bool_list, is_bool_tuple, is_int_int, is_int_bool, is_int_str, is_int_list, is_int_tuple, is_str_int, is_str_bool, is_str_str, is_str_list, is_str_tuple, is_list_int, is_list_bool, is_list_str, is_list_list, is_list_tuple, is_tuple_int, is_tuple_bool, is_tuple_str, is_tuple_list, is_tuple_tuple, is_dict_int, is_dict_bool, is_dict_str, is_dict_list, is_dict_tuple, isiDs, L2.atI, L2.ixN, big, fn24, b35, e, e0]
  | [a], _ => simp [evSs, evS, evE, evEs, evB, evC, evO, evP, evI, callD, argSl, argSls, bors, wb, frz, frzs, sees, R.see, lockS, unlockS, asgS, asgR, retR, setD, asgT, unlockO, backA, endF, nIf, nIfs, isAnd, truD, RD.r, binD, cmpD, biD, ixD, Mn.Loc, keyD, meD, recv, gtD, apD, ↓evS_fr, ↓evE_lc, ↓evE_srt, eq_ss, eq_ii, eq_is, eq_si, ok_b, ok_t, bt, tb, in_b, in_t, in_i, gd0, gd1, gd2, gd3, is_NoneType_int, is_NoneType_bool, is_NoneType_str, is_NoneType_list, is_NoneType_tuple, is_bool_int, is_bool_bool, is_bool_str, is_bool_list, is_bool_tuple, is_int_int, is_int_bool, is_int_str, is_int_list, is_int_tuple, is_str_int, is_str_bool, is_str_str, is_str_list, is_str_tuple, is_list_int, is_list_bool, is_list_str, is_list_list, is_list_tuple, is_tuple_int, is_tuple_bool, is_tuple_str, is_tuple_list, is_tuple_tuple, is_dict_int, is_dict_bool, is_dict_str, is_dict_list, is_dict_tuple, isiDs, L2.atI, L2.ixN, big] at e; simp [evSs, evS, evE, evEs, evB, evC, evO, evP, evI, callD, argSl, argSls, bors, wb, frz, frzs, sees, R.see, lockS, unlockS, asgS, asgR, retR, setD, asgT, unlockO, backA, endF, nIf, nIfs, isAnd, truD, RD.r, binD, cmpD, biD, ixD, Mn.Loc, keyD, meD, recv, gtD, apD, ↓evS_fr, ↓evE_lc, ↓evE_srt, eq_ss, eq_ii, eq_is, eq_si, ok_b, ok_t, bt, tb, in_b, in_t, in_i, gd0, gd1, gd2, gd3, is_NoneType_int, is_NoneType_bool, is_NoneType_str, is_NoneType_list, is_NoneType_tuple, is_bool_int, is_bool_bool, is_bool_str, is_bool_list, is_bool_tuple, is_int_int, is_int_bool, is_int_str, is_int_list, is_int_tuple, is_str_int, is_str_bool, is_str_str, is_str_list, is_str_tuple, is_list_int, is_list_bool, is_list_str, is_list_list, is_list_tuple, is_tuple_int, is_tuple_bool, is_tuple_str, is_tuple_list, is_tuple_tuple, is_dict_int, is_dict_bool, is_dict_str, is_dict_list, is_dict_tuple, isiDs, L2.atI, L2.ixN, big, fn24, b35, e]
  | [a, b], _ => simp [evSs, evS, evE, evEs, evB, evC, evO, evP, evI, callD, argSl, argSls, bors, wb, frz, frzs, sees, R.see, lockS, unlockS, asgS, asgR, retR, setD, asgT, unlockO, backA, endF, nIf, nIfs, isAnd, truD, RD.r, binD, cmpD, biD, ixD, Mn.Loc, keyD, meD, recv, gtD, apD, ↓evS_fr, ↓evE_lc, ↓evE_srt, eq_ss, eq_ii, eq_is, eq_si, ok_b, ok_t, bt, tb, in_b, in_t, in_i, gd0, gd1, gd2, gd3, is_NoneType_int, is_NoneType_bool, is_NoneType_str, is_NoneType_list, is_NoneType_tuple, is_bool_int, is_bool_bool, is_bool_str, is_bool_list, is_bool_tuple, is_int_int, is_int_bool, is_int_str, is_int_list, is_int_tuple, is_str_int, is_str_bool, is_str_str, is_str_list, is_str_tuple, is_list_int, is_list_bool, is_list_str, is_list_list, is_list_tuple, is_tuple_int, is_tuple_bool, is_tuple_str, is_tuple_list, is_tuple_tuple, is_dict_int, is_dict_bool, is_dict_str, is_dict_list, is_dict_tuple, isiDs, L2.atI, L2.ixN, big] at e; simp [evSs, evS, evE, evEs, evB, evC, evO, evP, evI, callD, argSl, argSls, bors, wb, frz, frzs, sees, R.see, lockS, unlockS, asgS, asgR, retR, setD, asgT, unlockO, backA, endF, nIf, nIfs, isAnd, truD, RD.r, binD, cmpD, biD, ixD, Mn.Loc, keyD, meD, recv, gtD, apD, ↓evS_fr, ↓evE_lc, ↓evE_srt, eq_ss, eq_ii, eq_is, eq_si, ok_b, ok_t, bt, tb, in_b, in_t, in_i, gd0, gd1, gd2, gd3, is_NoneType_int, is_NoneType_bool, is_NoneType_str, is_NoneType_list, is_NoneType_tuple, is_bool_int, is_bool_bool, is_bool_str, is_bool_list, is_bool_tuple, is_int_int, is_int_bool, is_int_str, is_int_list, is_int_tuple, is_str_int, is_str_bool, is_str_str, is_str_list, is_str_tuple, is_list_int, is_list_bool, is_list_str, is_list_list, is_list_tuple, is_tuple_int, is_tuple_bool, is_tuple_str, is_tuple_list, is_tuple_tuple, is_dict_int, is_dict_bool, is_dict_str, is_dict_list, is_dict_tuple, isiDs, L2.atI, L2.ixN, big, fn24, b35, e]
  | [a, b, c], _ => simp [evSs, evS, evE, evEs, evB, evC, evO, evP, evI, callD, argSl, argSls, bors, wb, frz, frzs, sees, R.see, lockS, unlockS, asgS, asgR, retR, setD, asgT, unlockO, backA, endF, nIf, nIfs, isAnd, truD, RD.r, binD, cmpD, biD, ixD, Mn.Loc, keyD, meD, recv, gtD, apD, ↓evS_fr, ↓evE_lc, ↓evE_srt, eq_ss, eq_ii, eq_is, eq_si, ok_b, ok_t, bt, tb, in_b, in_t, in_i, gd0, gd1, gd2, gd3, is_NoneType_int, is_NoneType_bool, is_NoneType_str, is_NoneType_list, is_NoneType_tuple, is_bool_int, is_bool_bool, is_bool_str, is_bool_list, is_bool_tuple, is_int_int, is_int_bool, is_int_str, is_int_list, is_int_tuple, is_str_int, is_str_bool, is_str_str, is_str_list, is_str_tuple, is_list_int, is_list_bool, is_list_str, is_list_list, is_list_tuple, is_tuple_int, is_tuple_bool, is_tuple_str, is_tuple_list, is_tuple_tuple, is_dict_int, is_dict_bool, is_dict_str, is_dict_list, is_dict_tuple, isiDs, L2.atI, L2.ixN, big] at e; simp [evSs, evS, evE, evEs, evB, evC, evO, evP, evI, callD, argSl, argSls, bors, wb, frz, frzs, sees, R.see, lockS, unlockS, asgS, asgR, retR, setD, asgT, unlockO, backA, endF, nIf, nIfs, isAnd, truD, RD.r, binD, cmpD, biD, ixD, Mn.Loc, keyD, meD, recv, gtD, apD, ↓evS_fr, ↓evE_lc, ↓evE_srt, eq_ss, eq_ii, eq_is, eq_si, ok_b, ok_t, bt, tb, in_b, in_t, in_i, gd0, gd1, gd2, gd3, is_NoneType_int, is_NoneType_bool, is_NoneType_str, is_NoneType_list, is_NoneType_tuple, is_bool_int, is_bool_bool, is_bool_str, is_bool_list, is_bool_tuple, is_int_int, is_int_bool, is_int_str, is_int_list, is_int_tuple, is_str_int, is_str_bool, is_str_str, is_str_list, is_str_tuple, is_list_int, is_list_bool, is_list_str, is_list_list, is_list_tuple, is_tuple_int, is_tuple_bool, is_tuple_str, is_tuple_list, is_tuple_tuple, is_dict_int, is_dict_bool, is_dict_str, is_dict_list, is_dict_tuple, isiDs, L2.atI, L2.ixN, big, fn24, b35, e]
  | [a, b, c, d], _ => simp [evSs, evS, evE, evEs, evB, evC, evO, evP, evI, callD, argSl, argSls, bors, wb, frz, frzs, sees, R.see, lockS, unlockS, asgS, asgR, retR, setD, asgT, unlockO, backA, endF, nIf, nIfs, isAnd, truD, RD.r, binD, cmpD, biD, ixD, Mn.Loc, keyD, meD, recv, gtD, apD, ↓evS_fr, ↓evE_lc, ↓evE_srt, eq_ss, eq_ii, eq_is, eq_si, ok_b, ok_t, bt, tb, in_b, in_t, in_i, gd0, gd1, gd2, gd3, is_NoneType_int, is_NoneType_bool, is_NoneType_str, is_NoneType_list, is_NoneType_tuple, is_bool_int, is_bool_bool, is_bool_str, is_bool_list, is_bool_tuple, is_int_int, is_int_bool, is_int_str, is_int_list, is_int_tuple, is_str_int, is_str_bool, is_str_str, is_str_list, is_str_tuple, is_list_int, is_list_bool, is_list_str, is_list_list, is_list_tuple, is_tuple_int, is_tuple_bool, is_tuple_str, is_tuple_list, is_tuple_tuple, is_dict_int, is_dict_bool, is_dict_str, is_dict_list, is_dict_tuple, isiDs, L2.atI, L2.ixN, big] at e; simp [evSs, evS, evE, evEs, evB, evC, evO, evP, evI, callD, argSl, argSls, bors, wb, frz, frzs, sees, R.see, lockS, unlockS, asgS, asgR, retR, setD, asgT, unlockO, backA, endF, nIf, nIfs, isAnd, truD, RD.r, binD, cmpD, biD, ixD, Mn.Loc, keyD, meD, recv, gtD, apD, ↓evS_fr, ↓evE_lc, ↓evE_srt, eq_ss, eq_ii, eq_is, eq_si, ok_b, ok_t, bt, tb, in_b, in_t, in_i, gd0, gd1, gd2, gd3, is_NoneType_int, is_NoneType_bool, is_NoneType_str, is_NoneType_list, is_NoneType_tuple, is_bool_int, is_bool_bool, is_bool_str, is_bool_list, is_bool_tuple, is_int_int, is_int_bool, is_int_str, is_int_list, is_int_tuple, is_str_int, is_str_bool, is_str_str, is_str_list, is_str_tuple, is_list_int, is_list_bool, is_list_str, is_list_list, is_list_tuple, is_tuple_int, is_tuple_bool, is_tuple_str, is_tuple_list, is_tuple_tuple, is_dict_int, is_dict_bool, is_dict_str, is_dict_list, is_dict_tuple, isiDs, L2.atI, L2.ixN, big, fn24, b35, e]
  | a :: b :: c :: d :: f :: r, l => simp [evSs, evS, evE, evEs, evB, evC, evO, evP, evI, callD, argSl, argSls, bors, wb, frz, frzs, sees, R.see, lockS, unlockS, asgS, asgR, retR, setD, asgT, unlockO, backA, endF, nIf, nIfs, isAnd, truD, RD.r, binD, cmpD, biD, ixD, Mn.Loc, keyD, meD, recv, gtD, apD, ↓evS_fr, ↓evE_lc, ↓evE_srt, eq_ss, eq_ii, eq_is, eq_si, ok_b, ok_t, bt, tb, in_b, in_t, in_i, gd0, gd1, gd2, gd3, is_NoneType_int, is_NoneType_bool, is_NoneType_str, is_NoneType_list, is_NoneType_tuple, is_bool_int, is_bool_bool, is_bool_str, is_bool_list, is_bool_tuple, is_int_int, is_int_bool, is_int_str, is_int_list, is_int_tuple, is_str_int, is_str_bool, is_str_str, is_str_list, is_str_tuple, is_list_int, is_list_bool, is_list_str, is_list_list, is_list_tuple, is_tuple_int, is_tuple_bool, is_tuple_str, is_tuple_list, is_tuple_tuple, is_dict_int, is_dict_bool, is_dict_str, is_dict_list, is_dict_tuple, isiDs, L2.atI, L2.ixN, big] at l
theorem ext1 (k : Nat) {ds : List D} {v w : D} (l : ds.length ≤ 4) (e : rn (k+4) 13 (ds.map .val) = some (.ret (.val v) (ds.map .val))) (e0 : rn (k+4) 12 [] = some (.ret (.val w) [])) :
    rn (k+5) 24 [.val (.int 1), .own ds] = some (.ret (.val v) [.val (.int 1), .own ds]) := by
  match ds, l with
  | [], _ => simp [evSs, evS, evE, evEs, evB, evC, evO, evP, evI, callD, argSl, argSls, bors, wb, frz, frzs, sees, R.see, lockS, unlockS, asgS, asgR, retR, setD, asgT, unlockO, backA, endF, nIf, nIfs, isAnd, truD, RD.r, binD, cmpD, biD, ixD, Mn.Loc, keyD, meD, recv, gtD, apD, ↓evS_fr, ↓evE_lc, ↓evE_srt, eq_ss, eq_ii, eq_is, eq_si, ok_b, ok_t, bt, tb, in_b, in_t, in_i, gd0, gd1, gd2, gd3, is_NoneType_int, is_NoneType_bool, is_NoneType_str, is_NoneType_list, is_NoneType_tuple, is_bool_int, is_bool_bool, is_bool_str, is_bool_list, is_bool_tuple, is_int_int, is_int_bool, is_int_str, is_int_list, is_int_tuple, is_str_int, is_str_bool, is_str_str, is_str_list, is_str_tuple, is_list_int, is_list_bool, is_list_str, is_list_list, is_list_tuple, is_tuple_int, is_tuple_bool, is_tuple_str, is_tuple_list, is_tuple_tuple, is_dict_int, is_dict_bool, is_dict_str, is_dict_list, is_dict_tuple, isiDs, L2.atI, L2.ixN, big] at e; simp [evSs, evS, evE, evEs, evB, evC, evO, evP, evI, callD, argSl, argSls, bors, wb, frz, frzs, sees, R.see, lockS, unlockS, asgS, asgR, retR, setD, asgT, unlockO, backA, endF, nIf, nIfs, isAnd, truD, RD.r, binD, cmpD, biD, ixD, Mn.Loc, keyD, meD, recv, gtD, apD, ↓evS_fr, ↓evE_lc, ↓evE_srt, eq_ss, eq_ii, eq_is, eq_si, ok_b, ok_t, bt, tb, in_b, in_t, in_i, gd0, gd1, gd2, gd3, is_NoneType_int, is_NoneType_bool, is_NoneType_str, is_NoneType_list, is_NoneType_tuple, is_bool_int, is_bool_bool, is_bool_str, is_bool_list, is_bool_tuple, is_int_int, is_int_bool, is_int_str, is_int_list, is_int_tuple, is_str_int, is_str_bool, is_str_str, is_str_list, is_str_tuple, is_list_int, is_list_bool, is_list_str, is_list_list, is_list_tuple, is_tuple_int, is_tuple_bool, is_tuple_str, is_tuple_list, is_tuple_tuple, is_dict_int, is_dict_bool, is_dict_str, is_dict_list, is_dict_tuple, isiDs, L2.atI, L2.ixN, big, fn24, b35, e, e0]
  | [a], _ => simp [evSs, evS, evE, evEs, evB, evC, evO, evP, evI, callD, argSl, argSls, bors, wb, frz, frzs, sees, R.see, lockS, unlockS, asgS, asgR, retR, setD, asgT, unlockO, backA, endF, nIf, nIfs, isAnd, truD, RD.r, binD, cmpD, biD, ixD, Mn.Loc, keyD, meD, recv, gtD, apD, ↓evS_fr, ↓evE_lc, ↓evE_srt, eq_ss, eq_ii, eq_is, eq_si, ok_b, ok_t, bt, tb, in_b, in_t, in_i, gd0, gd1, gd2, gd3, is_NoneType_int, is_NoneType_bool, is_NoneType_str, is_NoneType_list, is_NoneType_tuple, is_bool_int, is_bool_bool, is_bool_str, is_bool_list, is_bool_tuple, is_int_int, is_int_bool, is_int_str, is_int_list, is_int_tuple, is_str_int, is_str_bool, is_str_str, is_str_list, is_str_tuple, is_list_int, is_list_bool, is_list_str, is_list_list, is_list_tuple, is_tuple_int, is_tuple_bool, is_tuple_str, is_tuple_list, is_tuple_tuple, is_dict_int, is_dict_bool, is_dict_str, is_dict_list, is_dict_tuple, isiDs, L2.atI, L2.ixN, big] at e; simp [evSs, evS, evE, evEs, evB, evC, evO, evP, evI, callD, argSl, argSls, bors, wb, frz, frzs, sees, R.see, lockS, unlockS, asgS, asgR, retR, setD, asgT, unlockO, backA, endF, nIf, nIfs, isAnd, truD, RD.r, binD, cmpD, biD, ixD, Mn.Loc, keyD, meD, recv, gtD, apD, ↓evS_fr, ↓evE_lc, ↓evE_srt, eq_ss, eq_ii, eq_is, eq_si, ok_b, ok_t, bt, tb, in_b, in_t, in_i, gd0, gd1, gd2, gd3, is_NoneType_int, is_NoneType_bool, is_NoneType_str, is_NoneType_list, is_NoneType_tuple, is_bool_int, is_bool_bool, is_bool_str, is_bool_list, is_bool_tuple, is_int_int, is_int_bool, is_int_str, is_int_list, is_int_tuple, is_str_int, is_str_bool, is_str_str, is_str_list, is_str_tuple, is_list_int, is_list_bool, is_list_str, is_list_list, is_list_tuple, is_tuple_int, is_tuple_bool, is_tuple_str, is_tuple_list, is_tuple_tuple, is_dict_int, is_dict_bool, is_dict_str, is_dict_list, is_dict_tuple, isiDs, L2.atI, L2.ixN, big, fn24, b35, e]
  | [a, b], _ => simp [evSs, evS, evE, evEs, evB, evC, evO, evP, evI, callD, argSl, argSls, bors, wb, frz, frzs, sees, R.see, lockS, unlockS, asgS, asgR, retR, setD, asgT, unlockO, backA, endF, nIf, nIfs, isAnd, truD, RD.r, binD, cmpD, biD, ixD, Mn.Loc, keyD, meD, recv, gtD, apD, ↓evS_fr, ↓evE_lc, ↓evE_srt, eq_ss, eq_ii, eq_is, eq_si, ok_b, ok_t, bt, tb, in_b, in_t, in_i, gd0, gd1, gd2, gd3, is_NoneType_int, is_NoneType_bool, is_NoneType_str, is_NoneType_list, is_NoneType_tuple, is_bool_int, is_bool_bool, is_bool_str, is_bool_list, is_bool_tuple, is_int_int, is_int_bool, is_int_str, is_int_list, is_int_tuple, is_str_int, is_str_bool, is_str_str, is_str_list, is_str_tuple, is_list_int, is_list_bool, is_list_str, is_list_list, is_list_tuple, is_tuple_int, is_tuple_bool, is_tuple_str, is_tuple_list, is_tuple_tuple, is_dict_int, is_dict_bool, is_dict_str, is_dict_list, is_dict_tuple, isiDs, L2.atI, L2.ixN, big] at e; simp [evSs, evS, evE, evEs, evB, evC, evO, evP, evI, callD, argSl, argSls, bors, wb, frz, frzs, sees, R.see, lockS, unlockS, asgS, asgR, retR, setD, asgT, unlockO, backA, endF, nIf, nIfs, isAnd, truD, RD.r, binD, cmpD, biD, ixD, Mn.Loc, keyD, meD, recv, gtD, apD, ↓evS_fr, ↓evE_lc, ↓evE_srt, eq_ss, eq_ii, eq_is, eq_si, ok_b, ok_t, bt, tb, in_b, in_t, in_i, gd0, gd1, gd2, gd3, is_NoneType_int, is_NoneType_bool, is_NoneType_str, is_NoneType_list, is_NoneType_tuple, is_bool_int, is_bool_bool, is_bool_str, is_bool_list, is_bool_tuple, is_int_int, is_int_bool, is_int_str, is_int_list, is_int_tuple, is_str_int, is_str_bool, is_str_str, is_str_list, is_str_tuple, is_list_int, is_list_bool, is_list_str, is_list_list, is_list_tuple, is_tuple_int, is_tuple_bool, is_tuple_str, is_tuple_list, is_tuple_tuple, is_dict_int, is_dict_bool, is_dict_str, is_dict_list, is_dict_tuple, isiDs, L2.atI, L2.ixN, big, fn24, b35, e]
  | [a, b, c], _ => simp [evSs, evS, evE, evEs, evB, evC, evO, evP, evI, callD, argSl, argSls, bors, wb, frz, frzs, sees, R.see, lockS, unlockS, asgS, asgR, retR, setD, asgT, unlockO, backA, endF, nIf, nIfs, isAnd, truD, RD.r, binD, cmpD, biD, ixD, Mn.Loc, keyD, meD, recv, gtD, apD, ↓evS_fr, ↓evE_lc, ↓evE_srt, eq_ss, eq_ii, eq_is, eq_si, ok_b, ok_t, bt, tb, in_b, in_t, in_i, gd0, gd1, gd2, gd3, is_NoneType_int, is_NoneType_bool, is_NoneType_str, is_NoneType_list, is_NoneType_tuple, is_bool_int, is_bool_bool, is_bool_str, is_bool_list, is_bool_tuple, is_int_int, is_int_bool, is_int_str, is_int_list, is_int_tuple, is_str_int, is_str_bool, is_str_str, is_str_list, is_str_tuple, is_list_int, is_list_bool, is_list_str, is_list_list, is_list_tuple, is_tuple_int, is_tuple_bool, is_tuple_str, is_tuple_list, is_tuple_tuple, is_dict_int, is_dict_bool, is_dict_str, is_dict_list, is_dict_tuple, isiDs, L2.atI, L2.ixN, big] at e; simp [evSs, evS, evE, evEs, evB, evC, evO, evP, evI, callD, argSl, argSls, bors, wb, frz, frzs, sees, R.see, lockS, unlockS, asgS, asgR, retR, setD, asgT, unlockO, backA, endF, nIf, nIfs, isAnd, truD, RD.r, binD, cmpD, biD, ixD, Mn.Loc, keyD, meD, recv, gtD, apD, ↓evS_fr, ↓evE_lc, ↓evE_srt, eq_ss, eq_ii, eq_is, eq_si, ok_b, ok_t, bt, tb, in_b, in_t, in_i, gd0, gd1, gd2, gd3, is_NoneType_int, is_NoneType_bool, is_NoneType_str, is_NoneType_list, is_NoneType_tuple, is_bool_int, is_bool_bool, is_bool_str, is_bool_list, is_bool_tuple, is_int_int, is_int_bool, is_int_str, is_int_list, is_int_tuple, is_str_int, is_str_bool, is_str_str, is_str_list, is_str_tuple, is_list_int, is_list_bool, is_list_str, is_list_list, is_list_tuple, is_tuple_int, is_tuple_bool, is_tuple_str, is_tuple_list, is_tuple_tuple, is_dict_int, is_dict_bool, is_dict_str, is_dict_list, is_dict_tuple, isiDs, L2.atI, L2.ixN, big, fn24, b35, e]
  | [a, b, c, d], _ => simp [evSs, evS, evE, evEs, evB, evC, evO, evP, evI, callD, argSl, argSls, bors, wb, frz, frzs, sees, R.see, lockS, unlockS, asgS, asgR, retR, setD, asgT, unlockO, backA, endF, nIf, nIfs, isAnd, truD, RD.r, binD, cmpD, biD, ixD, Mn.Loc, keyD, meD, recv, gtD, apD, ↓evS_fr, ↓evE_lc, ↓evE_srt, eq_ss, eq_ii, eq_is, eq_si, ok_b, ok_t, bt, tb, in_b, in_t, in_i, gd0, gd1, gd2, gd3, is_NoneType_int, is_NoneType_bool, is_NoneType_str, is_NoneType_list, is_NoneType_tuple, is_bool_int, is_bool_bool, is_bool_str, is_bool_list, is_bool_tuple, is_int_int, is_int_bool, is_int_str, is_int_list, is_int_tuple, is_str_int, is_str_bool, is_str_str, is_str_list, is_str_tuple, is_list_int, is_list_bool, is_list_str, is_list_list, is_list_tuple, is_tuple_int, is_tuple_bool, is_tuple_str, is_tuple_list, is_tuple_tuple, is_dict_int, is_dict_bool, is_dict_str, is_dict_list, is_dict_tuple, isiDs, L2.atI, L2.ixN, big] at e; simp [evSs, evS, evE, evEs, evB, evC, evO, evP, evI, callD, argSl, argSls, bors, wb, frz, frzs, sees, R.see, lockS, unlockS, asgS, asgR, retR, setD, asgT, unlockO, backA, endF, nIf, nIfs, isAnd, truD, RD.r, binD, cmpD, biD, ixD, Mn.Loc, keyD, meD, recv, gtD, apD, ↓evS_fr, ↓evE_lc, ↓evE_srt, eq_ss, eq_ii, eq_is, eq_si, ok_b, ok_t, bt, tb, in_b, in_t, in_i, gd0, gd1, gd2, gd3, is_NoneType_int, is_NoneType_bool, is_NoneType_str, is_NoneType_list, is_NoneType_tuple, is_bool_int, is_bool_bool, is_bool_str, is_bool_list, is_bool_tuple, is_int_int, is_int_bool, is_int_str, is_int_list, is_int_tuple, is_str_int, is_str_bool, is_str_str, is_str_list, is_str_tuple, is_list_int, is_list_bool, is_list_str, is_list_list, is_list_tuple, is_tuple_int, is_tuple_bool, is_tuple_str, is_tuple_list, is_tuple_tuple, is_dict_int, is_dict_bool, is_dict_str, is_dict_list, is_dict_tuple, isiDs, L2.atI, L2.ixN, big, fn24, b35, e]
  | a :: b :: c :: d :: f :: r, l => simp [evSs, evS, evE, evEs, evB, evC, evO, evP, evI, callD, argSl, argSls, bors, wb, frz, frzs, sees, R.see, lockS, unlockS, asgS, asgR, retR, setD, asgT, unlockO, backA, endF, nIf, nIfs, isAnd, truD, RD.r, binD, cmpD, biD, ixD, Mn.Loc, keyD, meD, recv, gtD, apD, ↓evS_fr, ↓evE_lc, ↓evE_srt, eq_ss, eq_ii, eq_is, eq_si, ok_b, ok_t, bt, tb, in_b, in_t, in_i, gd0, gd1, gd2, gd3, is_NoneType_int, is_NoneType_bool, is_NoneType_str, is_NoneType_list, is_NoneType_tuple, is_bool_int, is_bool_bool, is_bool_str, is_bool_list, is_bool_tuple, is_int_int, is_int_bool, is_int_str, is_int_list, is_int_tuple, is_str_int, is_str_bool, is_str_str, is_str_list, is_str_tuple, is_list_int, is_list_bool, is_list_str, is_list_list, is_list_tuple, is_tuple_int, is_tuple_bool, is_tuple_str, is_tuple_list, is_tuple_tuple, is_dict_int, is_dict_bool, is_dict_str, is_dict_list, is_dict_tuple, isiDs, L2.atI, L2.ixN, big] at l
theorem ext0x (k : Nat) {ds : List D} {v : D} {c0 : Nat} (l : ds.length ≤ 4) (ne : ds ≠ []) (e : rn (k+4) 12 (ds.map .val) = some (.exc c0 v (ds.map .val))) :
    rn (k+5) 24 [.val (.int 0), .own ds] = some (.exc c0 v [.val (.int 0), .own ds]) := by
  match ds, l with
  | [], _ => exact absurd rfl ne
  | [a], _ => simp [evSs, evS, evE, evEs, evB, evC, evO, evP, evI, callD, argSl, argSls, bors, wb, frz, frzs, sees, R.see, lockS, unlockS, asgS, asgR, retR, setD, asgT, unlockO, backA, endF, nIf, nIfs, isAnd, truD, RD.r, binD, cmpD, biD, ixD, Mn.Loc, keyD, meD, recv, gtD, apD, ↓evS_fr, ↓evE_lc, ↓evE_srt, eq_ss, eq_ii, eq_is, eq_si, ok_b, ok_t, bt, tb, in_b, in_t, in_i, gd0, gd1, gd2, gd3, is_NoneType_int, is_NoneType_bool, is_NoneType_str, is_NoneType_list, is_NoneType_tuple, is_bool_int, is_bool_bool, is_bool_str, is_bool_list, is_bool_tuple, is_int_int, is_int_bool, is_int_str, is_int_list, is_int_tuple, is_str_int, is_str_bool, is_str_str, is_str_list, is_str_tuple, is_list_int, is_list_bool, is_list_str, is_list_list, is_list_tuple, is_tuple_int, is_tuple_bool, is_tuple_str, is_tuple_list, is_tuple_tuple, is_dict_int, is_dict_bool, is_dict_str, is_dict_list, is_dict_tuple, isiDs, L2.atI, L2.ixN, big] at e; simp [evSs, evS, evE, evEs, evB, evC, evO, evP, evI, callD, argSl, argSls, bors, wb, frz, frzs, sees, R.see, lockS, unlockS, asgS, asgR, retR, setD, asgT, unlockO, backA, endF, nIf, nIfs, isAnd, truD, RD.r, binD, cmpD, biD, ixD, Mn.Loc, keyD, meD, recv, gtD, apD, ↓evS_fr, ↓evE_lc, ↓evE_srt, eq_ss, eq_ii, eq_is, eq_si, ok_b, ok_t, bt, tb, in_b, in_t, in_i, gd0, gd1, gd2, gd3, is_NoneType_int, is_NoneType_bool, is_NoneType_str, is_NoneType_list, is_NoneType_tuple, is_bool_int, is_bool_bool, is_bool_str, is_bool_list, is_bool_tuple, is_int_int, is_int_bool, is_int_str, is_int_list, is_int_tuple, is_str_int, is_str_bool, is_str_str, is_str_list, is_str_tuple, is_list_int, is_list_bool, is_list_str, is_list_list, is_list_tuple, is_tuple_int, is_tuple_bool, is_tuple_str, is_tuple_list, is_tuple_tuple, is_dict_int, is_dict_bool, is_dict_str, is_dict_list, is_dict_tuple, isiDs, L2.atI, L2.ixN, big, fn24, b35, e]
  | [a, b], _ => simp [evSs, evS, evE, evEs, evB, evC, evO, evP, evI, callD, argSl, argSls, bors, wb, frz, frzs, sees, R.see, lockS, unlockS, asgS, asgR, retR, setD, asgT, unlockO, backA, endF, nIf, nIfs, isAnd, truD, RD.r, binD, cmpD, biD, ixD, Mn.Loc, keyD, meD, recv, gtD, apD, ↓evS_fr, ↓evE_lc, ↓evE_srt, eq_ss, eq_ii, eq_is, eq_si, ok_b, ok_t, bt, tb, in_b, in_t, in_i, gd0, gd1, gd2, gd3, is_NoneType_int, is_NoneType_bool, is_NoneType_str, is_NoneType_list, is_NoneType_tuple, is_bool_int, is_bool_bool, is_bool_str, is_bool_list, is_bool_tuple, is_int_int, is_int_bool, is_int_str, is_int_list, is_int_tuple, is_str_int, is_str_bool, is_str_str, is_str_list, is_str_tuple, is_list_int, is_list_bool, is_list_str, is_list_list, is_list_tuple, is_tuple_int, is_tuple_bool, is_tuple_str, is_tuple_list, is_tuple_tuple, is_dict_int, is_dict_bool, is_dict_str, is_dict_list, is_dict_tuple, isiDs, L2.atI, L2.ixN, big] at e; simp [evSs, evS, evE, evEs, evB, evC, evO, evP, evI, callD, argSl, argSls, bors, wb, frz, frzs, sees, R.see, lockS, unlockS, asgS, asgR, retR, setD, asgT, unlockO, backA, endF, nIf, nIfs, isAnd, truD, RD.r, binD, cmpD, biD, ixD, Mn.Loc, keyD, meD, recv, gtD, apD, ↓evS_fr, ↓evE_lc, ↓evE_srt, eq_ss, eq_ii, eq_is, eq_si, ok_b, ok_t, bt, tb, in_b, in_t, in_i, gd0, gd1, gd2, gd3, is_NoneType_int, is_NoneType_bool, is_NoneType_str, is_NoneType_list, is_NoneType_tuple, is_bool_int, is_bool_bool, is_bool_str, is_bool_list, is_bool_tuple, is_int_int, is_int_bool, is_int_str, is_int_list, is_int_tuple, is_str_int, is_str_bool, is_str_str, is_str_list, is_str_tuple, is_list_int, is_list_bool, is_list_str, is_list_list, is_list_tuple, is_tuple_int, is_tuple_bool, is_tuple_str, is_tuple_list, is_tuple_tuple, is_dict_int, is_dict_bool, is_dict_str, is_dict_list, is_dict_tuple, isiDs, L2.atI, L2.ixN, big, fn24, b35, e]
  | [a, b, c], _ => simp [evSs, evS, evE, evEs, evB, evC, evO, evP, evI, callD, argSl, argSls, bors, wb, frz, frzs, sees, R.see, lockS, unlockS, asgS, asgR, retR, setD, asgT, unlockO, backA, endF, nIf, nIfs, isAnd, truD, RD.r, binD, cmpD, biD, ixD, Mn.Loc, keyD, meD, recv, gtD, apD, ↓evS_fr, ↓evE_lc, ↓evE_srt, eq_ss, eq_ii, eq_is, eq_si, ok_b, ok_t, bt, tb, in_b, in_t, in_i, gd0, gd1, gd2, gd3, is_NoneType_int, is_NoneType_bool, is_NoneType_str, is_NoneType_list, is_NoneType_tuple, is_bool_int, is_bool_bool, is_bool_str, is_bool_list, is_bool_tuple, is_int_int, is_int_bool, is_int_str, is_int_list, is_int_tuple, is_str_int, is_str_bool, is_str_str, is_str_list, is_str_tuple, is_list_int, is_list_bool, is_list_str, is_list_list, is_list_tuple, is_tuple_int, is_tuple_bool, is_tuple_str, is_tuple_list, is_tuple_tuple, is_dict_int, is_dict_bool, is_dict_str, is_dict_list, is_dict_tuple, isiDs, L2.atI, L2.ixN, big] at e; simp [evSs, evS, evE, evEs, evB, evC, evO, evP, evI, callD, argSl, argSls, bors, wb, frz, frzs, sees, R.see, lockS, unlockS, asgS, asgR, retR, setD, asgT, unlockO, backA, endF, nIf, nIfs, isAnd, truD, RD.r, binD, cmpD, biD, ixD, Mn.Loc, keyD, meD, recv, gtD, apD, ↓evS_fr, ↓evE_lc, ↓evE_srt, eq_ss, eq_ii, eq_is, eq_si, ok_b, ok_t, bt, tb, in_b, in_t, in_i, gd0, gd1, gd2, gd3, is_NoneType_int, is_NoneType_bool, is_NoneType_str, is_NoneType_list, is_NoneType_tuple, is_bool_int, is_bool_bool, is_bool_str, is_bool_list, is_bool_tuple, is_int_int, is_int_bool, is_int_str, is_int_list, is_int_tuple, is_str_int, is_str_bool, is_str_str, is_str_list, is_str_tuple, is_list_int, is_list_bool, is_list_str, is_list_list, is_list_tuple, is_tuple_int, is_tuple_bool, is_tuple_str, is_tuple_list, is_tuple_tuple, is_dict_int, is_dict_bool, is_dict_str, is_dict_list, is_dict_tuple, isiDs, L2.atI, L2.ixN, big, fn24, b35, e]
  | [a, b, c, d], _ => simp [evSs, evS, evE, evEs, evB, evC, evO, evP, evI, callD, argSl, argSls, bors, wb, frz, frzs, sees, R.see, lockS, unlockS, asgS, asgR, retR, setD, asgT, unlockO, backA, endF, nIf, nIfs, isAnd, truD, RD.r, binD, cmpD, biD, ixD, Mn.Loc, keyD, meD, recv, gtD, apD, ↓evS_fr, ↓evE_lc, ↓evE_srt, eq_ss, eq_ii, eq_is, eq_si, ok_b, ok_t, bt, tb, in_b, in_t, in_i, gd0, gd1, gd2, gd3, is_NoneType_int, is_NoneType_bool, is_NoneType_str, is_NoneType_list, is_NoneType_tuple, is_bool_int, is_bool_bool, is_bool_str, is_bool_list, is_bool_tuple, is_int_int, is_int_bool, is_int_str, is_int_list, is_int_tuple, is_str_int, is_str_bool, is_str_str, is_str_list, is_str_tuple, is_list_int, is_list_bool, is_list_str, is_list_list, is_list_tuple, is_tuple_int, is_tuple_bool, is_tuple_str, is_tuple_list, is_tuple_tuple, is_dict_int, is_dict_bool, is_dict_str, is_dict_list, is_dict_tuple, isiDs, L2.atI, L2.ixN, big] at e; simp [evSs, evS, evE, evEs, evB, evC, evO, evP, evI, callD, argSl, argSls, bors, wb, frz, frzs, sees, R.see, lockS, unlockS, asgS, asgR, retR, setD, asgT, unlockO, backA, endF, nIf, nIfs, isAnd, truD, RD.r, binD, cmpD, biD, ixD, Mn.Loc, keyD, meD, recv, gtD, apD, ↓evS_fr, ↓evE_lc, ↓evE_srt, eq_ss, eq_ii, eq_is, eq_si, ok_b, ok_t, bt, tb, in_b, in_t, in_i, gd0, gd1, gd2, gd3, is_NoneType_int, is_NoneType_bool, is_NoneType_str, is_NoneType_list, is_NoneType_tuple, is_bool_int, is_bool_bool, is_bool_str, is_bool_list, is_bool_tuple, is_int_int, is_int_bool, is_int_str, is_int_list, is_int_tuple, is_str_int, is_str_bool, is_str_str, is_str_list, is_str_tuple, is_list_int, is_list_bool, is_list_str, is_list_list, is_list_tuple, is_tuple_int, is_tuple_bool, is_tuple_str, is_tuple_list, is_tuple_tuple, is_dict_int, is_dict_bool, is_dict_str, is_dict_list, is_dict_tuple, isiDs, L2.atI, L2.ixN, big, fn24, b35, e]
  | a :: b :: c :: d :: f :: r, l => simp [evSs, evS, evE, evEs, evB, evC, evO, evP, evI, callD, argSl, argSls, bors, wb, frz, frzs, sees, R.see, lockS, unlockS, asgS, asgR, retR, setD, asgT, unlockO, backA, endF, nIf, nIfs, isAnd, truD, RD.r, binD, cmpD, biD, ixD, Mn.Loc, keyD, meD, recv, gtD, apD, ↓evS_fr, ↓evE_lc, ↓evE_srt, eq_ss, eq_ii, eq_is, eq_si, ok_b, ok_t, bt, tb, in_b, in_t, in_i, gd0, gd1, gd2, gd3, is_NoneType_int, is_NoneType_bool, is_NoneType_str, is_NoneType_list, is_NoneType_tuple, is_bool_int, is_bool_bool, is_bool_str, is_bool_list, is_bool_tuple, is_int_int, is_int_bool, is_int_str, is_int_list, is_int_tuple, is_str_int, is_str_bool, is_str_str, is_str_list, is_str_tuple, is_list_int, is_list_bool, is_list_str, is_list_list, is_list_tuple, is_tuple_int, is_tuple_bool, is_tuple_str, is_tuple_list, is_tuple_tuple, is_dict_int, is_dict_bool, is_dict_str, is_dict_list, is_dict_tuple, isiDs, L2.atI, L2.ixN, big] at l
theorem ext1x (k : Nat) {ds : List D} {v : D} {c0 : Nat} (l : ds.length ≤ 4) (ne : ds ≠ []) (e : rn (k+4) 13 (ds.map .val) = some (.exc c0 v (ds.map .val))) :
    rn (k+5) 24 [.val (.int 1), .own ds] = some (.exc c0 v [.val (.int 1), .own ds]) := by
  match ds, l with
  | [], _ => exact absurd rfl ne
  | [a], _ => simp [evSs, evS, evE, evEs, evB, evC, evO, evP, evI, callD, argSl, argSls, bors, wb, frz, frzs, sees, R.see, lockS, unlockS, asgS, asgR, retR, setD, asgT, unlockO, backA, endF, nIf, nIfs, isAnd, truD, RD.r, binD, cmpD, biD, ixD, Mn.Loc, keyD, meD, recv, gtD, apD, ↓evS_fr, ↓evE_lc, ↓evE_srt, eq_ss, eq_ii, eq_is, eq_si, ok_b, ok_t, bt, tb, in_b, in_t, in_i, gd0, gd1, gd2, gd3, is_NoneType_int, is_NoneType_bool, is_NoneType_str, is_NoneType_list, is_NoneType_tuple, is_bool_int, is_bool_bool, is_bool_str, is_bool_list, is_bool_tuple, is_int_int, is_int_bool, is_int_str, is_int_list, is_int_tuple, is_str_int, is_str_bool, is_str_str, is_str_list, is_str_tuple, is_list_int, is_list_bool, is_list_str, is_list_list, is_list_tuple, is_tuple_int, is_tuple_bool, is_tuple_str, is_tuple_list, is_tuple_tuple, is_dict_int, is_dict_bool, is_dict_str, is_dict_list, is_dict_tuple, isiDs, L2.atI, L2.ixN, big] at e; simp [evSs, evS, evE, evEs, evB, evC, evO, evP, evI, callD, argSl, argSls, bors, wb, frz, frzs, sees, R.see, lockS, unlockS, asgS, asgR, retR, setD, asgT, unlockO, backA, endF, nIf, nIfs, isAnd, truD, RD.r, binD, cmpD, biD, ixD, Mn.Loc, keyD, meD, recv, gtD, apD, ↓evS_fr, ↓evE_lc, ↓evE_srt, eq_ss, eq_ii, eq_is, eq_si, ok_b, ok_t, bt, tb, in_b, in_t, in_i, gd0, gd1, gd2, gd3, is_NoneType_int, is_NoneType_bool, is_NoneType_str, is_NoneType_list, is_NoneType_tuple, is_bool_int, is_bool_bool, is_bool_str, is_bool_list, is_bool_tuple, is_int_int, is_int_bool, is_int_str, is_int_list, is_int_tuple, is_str_int, is_str_bool, is_str_str, is_str_list, is_str_tuple, is_list_int, is_list_bool, is_list_str, is_list_list, is_list_tuple, is_tuple_int, is_tuple_bool, is_tuple_str, is_tuple_list, is_tuple_tuple, is_dict_int, is_dict_bool, is_dict_str, is_dict_list, is_dict_tuple, isiDs, L2.atI, L2.ixN, big, fn24, b35, e]
  | [a, b], _ => simp [evSs, evS, evE, evEs, evB, evC, evO, evP, evI, callD, argSl, argSls, bors, wb, frz, frzs, sees, R.see, lockS, unlockS, asgS, asgR, retR, setD, asgT, unlockO, backA, endF, nIf, nIfs, isAnd, truD, RD.r, binD, cmpD, biD, ixD, Mn.Loc, keyD, meD, recv, gtD, apD, ↓evS_fr, ↓evE_lc, ↓evE_srt, eq_ss, eq_ii, eq_is, eq_si, ok_b, ok_t, bt, tb, in_b, in_t, in_i, gd0, gd1, gd2, gd3, is_NoneType_int, is_NoneType_bool, is_NoneType_str, is_NoneType_list, is_NoneType_tuple, is_bool_int, is_bool_bool, is_bool_str, is_bool_list, is_bool_tuple, is_int_int, is_int_bool, is_int_str, is_int_list, is_int_tuple, is_str_int, is_str_bool, is_str_str, is_str_list, is_str_tuple, is_list_int, is_list_bool, is_list_str, is_list_list, is_list_tuple, is_tuple_int, is_tuple_bool, is_tuple_str, is_tuple_list, is_tuple_tuple, is_dict_int, is_dict_bool, is_dict_str, is_dict_list, is_dict_tuple, isiDs, L2.atI, L2.ixN, big] at e; simp [evSs, evS, evE, evEs, evB, evC, evO, evP, evI, callD, argSl, argSls, bors, wb, frz, frzs, sees, R.see, lockS, unlockS, asgS, asgR, retR, setD, asgT, unlockO, backA, endF, nIf, nIfs, isAnd, truD, RD.r, binD, cmpD, biD, ixD, Mn.Loc, keyD, meD, recv, gtD, apD, ↓evS_fr, ↓evE_lc, ↓evE_srt, eq_ss, eq_ii, eq_is, eq_si, ok_b, ok_t, bt, tb, in_b, in_t, in_i, gd0, gd1, gd2, gd3, is_NoneType_int, is_NoneType_bool, is_NoneType_str, is_NoneType_list, is_NoneType_tuple, is_bool_int, is_bool_bool, is_bool_str, is_bool_list, is_bool_tuple, is_int_int, is_int_bool, is_int_str, is_int_list, is_int_tuple, is_str_int, is_str_bool, is_str_str, is_str_list, is_str_tuple, is_list_int, is_list_bool, is_list_str, is_list_list, is_list_tuple, is_tuple_int, is_tuple_bool, is_tuple_str, is_tuple_list, is_tuple_tuple, is_dict_int, is_dict_bool, is_dict_str, is_dict_list, is_dict_tuple, isiDs, L2.atI, L2.ixN, big, fn24, b35, e]
  | [a, b, c], _ => simp [evSs, evS, evE, evEs, evB, evC, evO, evP, evI, callD, argSl, argSls, bors, wb, frz, frzs, sees, R.see, lockS, unlockS, asgS, asgR, retR, setD, asgT, unlockO, backA, endF, nIf, nIfs, isAnd, truD, RD.r, binD, cmpD, biD, ixD, Mn.Loc, keyD, meD, recv, gtD, apD, ↓evS_fr, ↓evE_lc, ↓evE_srt, eq_ss, eq_ii, eq_is, eq_si, ok_b, ok_t, bt, tb, in_b, in_t, in_i, gd0, gd1, gd2, gd3, is_NoneType_int, is_NoneType_bool, is_NoneType_str, is_NoneType_list, is_NoneType_tuple, is_bool_int, is_bool_bool, is_bool_str, is_bool_list, is_bool_tuple, is_int_int, is_int_bool, is_int_str, is_int_list, is_int_tuple, is_str_int, is_str_bool, is_str_str, is_str_list, is_str_tuple, is_list_int, is_list_bool, is_list_str, is_list_list, is_list_tuple, is_tuple_int, is_tuple_bool, is_tuple_str, is_tuple_list, is_tuple_tuple, is_dict_int, is_dict_bool, is_dict_str, is_dict_list, is_dict_tuple, isiDs, L2.atI, L2.ixN, big] at e; simp [evSs, evS, evE, evEs, evB, evC, evO, evP, evI, callD, argSl, argSls, bors, wb, frz, frzs, sees, R.see, lockS, unlockS, asgS, asgR, retR, setD, asgT, unlockO, backA, endF, nIf, nIfs, isAnd, truD, RD.r, binD, cmpD, biD, ixD, Mn.Loc, keyD, meD, recv, gtD, apD, ↓evS_fr, ↓evE_lc, ↓evE_srt, eq_ss, eq_ii, eq_is, eq_si, ok_b, ok_t, bt, tb, in_b, in_t, in_i, gd0, gd1, gd2, gd3, is_NoneType_int, is_NoneType_bool, is_NoneType_str, is_NoneType_list, is_NoneType_tuple, is_bool_int, is_bool_bool, is_bool_str, is_bool_list, is_bool_tuple, is_int_int, is_int_bool, is_int_str, is_int_list, is_int_tuple, is_str_int, is_str_bool, is_str_str, is_str_list, is_str_tuple, is_list_int, is_list_bool, is_list_str, is_list_list, is_list_tuple, is_tuple_int, is_tuple_bool, is_tuple_str, is_tuple_list, is_tuple_tuple, is_dict_int, is_dict_bool, is_dict_str, is_dict_list, is_dict_tuple, isiDs, L2.atI, L2.ixN, big, fn24, b35, e]
  | [a, b, c, d], _ => simp [evSs, evS, evE, evEs, evB, evC, evO, evP, evI, callD, argSl, argSls, bors, wb, frz, frzs, sees, R.see, lockS, unlockS, asgS, asgR, retR, setD, asgT, unlockO, backA, endF, nIf, nIfs, isAnd, truD, RD.r, binD, cmpD, biD, ixD, Mn.Loc, keyD, meD, recv, gtD, apD, ↓evS_fr, ↓evE_lc, ↓evE_srt, eq_ss, eq_ii, eq_is, eq_si, ok_b, ok_t, bt, tb, in_b, in_t, in_i, gd0, gd1, gd2, gd3, is_NoneType_int, is_NoneType_bool, is_NoneType_str, is_NoneType_list, is_NoneType_tuple, is_bool_int, is_bool_bool, is_bool_str, is_bool_list, is_bool_tuple, is_int_int, is_int_bool, is_int_str, is_int_list, is_int_tuple, is_str_int, is_str_bool, is_str_str, is_str_list, is_str_tuple, is_list_int, is_list_bool, is_list_str, is_list_list, is_list_tuple, is_tuple_int, is_tuple_bool, is_tuple_str, is_tuple_list, is_tuple_tuple, is_dict_int, is_dict_bool, is_dict_str, is_dict_list, is_dict_tuple, isiDs, L2.atI, L2.ixN, big] at e; simp [evSs, evS, evE, evEs, evB, evC, evO, evP, evI, callD, argSl, argSls, bors, wb, frz, frzs, sees, R.see, lockS, unlockS, asgS, asgR, retR, setD, asgT, unlockO, backA, endF, nIf, nIfs, isAnd, truD, RD.r, binD, cmpD, biD, ixD, Mn.Loc, keyD, meD, recv, gtD, apD, ↓evS_fr, ↓evE_lc, ↓evE_srt, eq_ss, eq_ii, eq_is, eq_si, ok_b, ok_t, bt, tb, in_b, in_t, in_i, gd0, gd1, gd2, gd3, is_NoneType_int, is_NoneType_bool, is_NoneType_str, is_NoneType_list, is_NoneType_tuple, is_bool_int, is_bool_bool, is_bool_str, is_bool_list, is_bool_tuple, is_int_int, is_int_bool, is_int_str, is_int_list, is_int_tuple, is_str_int, is_str_bool, is_str_str, is_str_list, is_str_tuple, is_list_int, is_list_bool, is_list_str, is_list_list, is_list_tuple, is_tuple_int, is_tuple_bool, is_tuple_str, is_tuple_list, is_tuple_tuple, is_dict_int, is_dict_bool, is_dict_str, is_dict_list, is_dict_tuple, isiDs, L2.atI, L2.ixN, big, fn24, b35, e]
  | a :: b :: c :: d :: f :: r, l => simp [evSs, evS, evE, evEs, evB, evC, evO, evP, evI, callD, argSl, argSls, bors, wb, frz, frzs, sees, R.see, lockS, unlockS, asgS, asgR, retR, setD, asgT, unlockO, backA, endF, nIf, nIfs, isAnd, truD, RD.r, binD, cmpD, biD, ixD, Mn.Loc, keyD, meD, recv, gtD, apD, ↓evS_fr, ↓evE_lc, ↓evE_srt, eq_ss, eq_ii, eq_is, eq_si, ok_b, ok_t, bt, tb, in_b, in_t, in_i, gd0, gd1, gd2, gd3, is_NoneType_int, is_NoneType_bool, is_NoneType_str, is_NoneType_list, is_NoneType_tuple, is_bool_int, is_bool_bool, is_bool_str, is_bool_list, is_bool_tuple, is_int_int, is_int_bool, is_int_str, is_int_list, is_int_tuple, is_str_int, is_str_bool, is_str_str, is_str_list, is_str_tuple, is_list_int, is_list_bool, is_list_str, is_list_list, is_list_tuple, is_tuple_int, is_tuple_bool, is_tuple_str, is_tuple_list, is_tuple_tuple, is_dict_int, is_dict_bool, is_dict_str, is_dict_list, is_dict_tuple, isiDs, L2.atI, L2.ixN, big] at l
theorem nul12 (k : Nat) : rn (k+4) 12 [] = some (.ret (.val sT) []) := lesser k (ds := []) (by simp [evSs, evS, evE, evEs, evB, evC, evO, evP, evI, callD, argSl, argSls, bors, wb, frz, frzs, sees, R.see, lockS, unlockS, asgS, asgR, retR, setD, asgT, unlockO, backA, endF, nIf, nIfs, isAnd, truD, RD.r, binD, cmpD, biD, ixD, Mn.Loc, keyD, meD, recv, gtD, apD, ↓evS_fr, ↓evE_lc, ↓evE_srt, eq_ss, eq_ii, eq_is, eq_si, ok_b, ok_t, bt, tb, in_b, in_t, in_i, gd0, gd1, gd2, gd3, is_NoneType_int, is_NoneType_bool, is_NoneType_str, is_NoneType_list, is_NoneType_tuple, is_bool_int, is_bool_bool, is_bool_str, is_bool_list, is_bool_tuple, is_int_int, is_int_bool, is_int_str, is_int_list, is_int_tuple, is_str_int, is_str_bool, is_str_str, is_str_list, is_str_tuple, is_list_int, is_list_bool, is_list_str, is_list_list, is_list_tuple, is_tuple_int, is_tuple_bool, is_tuple_str, is_tuple_list, is_tuple_tuple, is_dict_int, is_dict_bool, is_dict_str, is_dict_list, is_dict_tuple, isiDs, L2.atI, L2.ixN, big]) (by simp [evSs, evS, evE, evEs, evB, evC, evO, evP, evI, callD, argSl, argSls, bors, wb, frz, frzs, sees, R.see, lockS, unlockS, asgS, asgR, retR, setD, asgT, unlockO, backA, endF, nIf, nIfs, isAnd, truD, RD.r, binD, cmpD, biD, ixD, Mn.Loc, keyD, meD, recv, gtD, apD, ↓evS_fr, ↓evE_lc, ↓evE_srt, eq_ss, eq_ii, eq_is, eq_si, ok_b, ok_t, bt, tb, in_b, in_t, in_i, gd0, gd1, gd2, gd3, is_NoneType_int, is_NoneType_bool, is_NoneType_str, is_NoneType_list, is_NoneType_tuple, is_bool_int, is_bool_bool, is_bool_str, is_bool_list, is_bool_tuple, is_int_int, is_int_bool, is_int_str, is_int_list, is_int_tuple, is_str_int, is_str_bool, is_str_str, is_str_list, is_str_tuple, is_list_int, is_list_bool, is_list_str, is_list_list, is_list_tuple, is_tuple_int, is_tuple_bool, is_tuple_str, is_tuple_list, is_tuple_tuple, is_dict_int, is_dict_bool, is_dict_str, is_dict_list, is_dict_tuple, isiDs, L2.atI, L2.ixN, big])
theorem nul13 (k : Nat) : rn (k+4) 13 [] = some (.ret (.val sB) []) := greater k (ds := []) (by simp [evSs, evS, evE, evEs, evB, evC, evO, evP, evI, callD, argSl, argSls, bors, wb, frz, frzs, sees, R.see, lockS, unlockS, asgS, asgR, retR, setD, asgT, unlockO, backA, endF, nIf, nIfs, isAnd, truD, RD.r, binD, cmpD, biD, ixD, Mn.Loc, keyD, meD, recv, gtD, apD, ↓evS_fr, ↓evE_lc, ↓evE_srt, eq_ss, eq_ii, eq_is, eq_si, ok_b, ok_t, bt, tb, in_b, in_t, in_i, gd0, gd1, gd2, gd3, is_NoneType_int, is_NoneType_bool, is_NoneType_str, is_NoneType_list, is_NoneType_tuple, is_bool_int, is_bool_bool, is_bool_str, is_bool_list, is_bool_tuple, is_int_int, is_int_bool, is_int_str, is_int_list, is_int_tuple, is_str_int, is_str_bool, is_str_str, is_str_list, is_str_tuple, is_list_int, is_list_bool, is_list_str, is_list_list, is_list_tuple, is_tuple_int, is_tuple_bool, is_tuple_str, is_tuple_list, is_tuple_tuple, is_dict_int, is_dict_bool, is_dict_str, is_dict_list, is_dict_tuple, isiDs, L2.atI, L2.ixN, big]) (by simp [evSs, evS, evE, evEs, evB, evC, evO, evP, evI, callD, argSl, argSls, bors, wb, frz, frzs, sees, R.see, lockS, unlockS, asgS, asgR, retR, setD, asgT, unlockO, backA, endF, nIf, nIfs, isAnd, truD, RD.r, binD, cmpD, biD, ixD, Mn.Loc, keyD, meD, recv, gtD, apD, ↓evS_fr, ↓evE_lc, ↓evE_srt, eq_ss, eq_ii, eq_is, eq_si, ok_b, ok_t, bt, tb, in_b, in_t, in_i, gd0, gd1, gd2, gd3, is_NoneType_int, is_NoneType_bool, is_NoneType_str, is_NoneType_list, is_NoneType_tuple, is_bool_int, is_bool_bool, is_bool_str, is_bool_list, is_bool_tuple, is_int_int, is_int_bool, is_int_str, is_int_list, is_int_tuple, is_str_int, is_str_bool, is_str_str, is_str_list, is_str_tuple, is_list_int, is_list_bool, is_list_str, is_list_list, is_list_tuple, is_tuple_int, is_tuple_bool, is_tuple_str, is_tuple_list, is_tuple_tuple, is_dict_int, is_dict_bool, is_dict_str, is_dict_list, is_dict_tuple, isiDs, L2.atI, L2.ixN, big])
theorem extreme0 (k : Nat) {ds : List D} (h : ∀ d ∈ ds, Th d) (l : ds.length ≤ 4) : rn (k+5) 24 [.val (.int 0), .own ds] = some (.ret (.val (ds.foldl lo sT)) [.val (.int 0), .own ds]) :=
  ext0 k l (lesser k (by simp [evSs, evS, evE, evEs, evB, evC, evO, evP, evI, callD, argSl, argSls, bors, wb, frz, frzs, sees, R.see, lockS, unlockS, asgS, asgR, retR, setD, asgT, unlockO, backA, endF, nIf, nIfs, isAnd, truD, RD.r, binD, cmpD, biD, ixD, Mn.Loc, keyD, meD, recv, gtD, apD, ↓evS_fr, ↓evE_lc, ↓evE_srt, eq_ss, eq_ii, eq_is, eq_si, ok_b, ok_t, bt, tb, in_b, in_t, in_i, gd0, gd1, gd2, gd3, is_NoneType_int, is_NoneType_bool, is_NoneType_str, is_NoneType_list, is_NoneType_tuple, is_bool_int, is_bool_bool, is_bool_str, is_bool_list, is_bool_tuple, is_int_int, is_int_bool, is_int_str, is_int_list, is_int_tuple, is_str_int, is_str_bool, is_str_str, is_str_list, is_str_tuple, is_list_int, is_list_bool, is_list_str, is_list_list, is_list_tuple, is_tuple_int, is_tuple_bool, is_tuple_str, is_tuple_list, is_tuple_tuple, is_dict_int, is_dict_bool, is_dict_str, is_dict_list, is_dict_tuple, isiDs, L2.atI, L2.ixN, big]; omega) h) (nul13 k)
theorem extreme1 (k : Nat) {ds : List D} (h : ∀ d ∈ ds, Th d) (l : ds.length ≤ 4) : rn (k+5) 24 [.val (.int 1), .own ds] = some (.ret (.val (ds.foldl hi sB)) [.val (.int 1), .own ds]) :=
  ext1 k l (greater k (by simp [evSs, evS, evE, evEs, evB, evC, evO, evP, evI, callD, argSl, argSls, bors, wb, frz, frzs, sees, R.see, lockS, unlockS, asgS, asgR, retR, setD, asgT, unlockO, backA, endF, nIf, nIfs, isAnd, truD, RD.r, binD, cmpD, biD, ixD, Mn.Loc, keyD, meD, recv, gtD, apD, ↓evS_fr, ↓evE_lc, ↓evE_srt, eq_ss, eq_ii, eq_is, eq_si, ok_b, ok_t, bt, tb, in_b, in_t, in_i, gd0, gd1, gd2, gd3, is_NoneType_int, is_NoneType_bool, is_NoneType_str, is_NoneType_list, is_NoneType_tuple, is_bool_int, is_bool_bool, is_bool_str, is_bool_list, is_bool_tuple, is_int_int, is_int_bool, is_int_str, is_int_list, is_int_tuple, is_str_int, is_str_bool, is_str_str, is_str_list, is_str_tuple, is_list_int, is_list_bool, is_list_str, is_list_list, is_list_tuple, is_tuple_int, is_tuple_bool, is_tuple_str, is_tuple_list, is_tuple_tuple, is_dict_int, is_dict_bool, is_dict_str, is_dict_list, is_dict_tuple, isiDs, L2.atI, L2.ixN, big]; omega) h) (nul12 k)
theorem extreme0x (k : Nat) {ds r : List D} {o : D} (h : ∀ d ∈ ds, Th d) (ho : o ∈ odds) (l : (ds ++ o :: r).length ≤ 4) : rn (k+5) 24 [.val (.int 0), .own (ds ++ o :: r)] = some (.exc 0 o [.val (.int 0), .own (ds ++ o :: r)]) :=
  ext0x k l (by simp [evSs, evS, evE, evEs, evB, evC, evO, evP, evI, callD, argSl, argSls, bors, wb, frz, frzs, sees, R.see, lockS, unlockS, asgS, asgR, retR, setD, asgT, unlockO, backA, endF, nIf, nIfs, isAnd, truD, RD.r, binD, cmpD, biD, ixD, Mn.Loc, keyD, meD, recv, gtD, apD, ↓evS_fr, ↓evE_lc, ↓evE_srt, eq_ss, eq_ii, eq_is, eq_si, ok_b, ok_t, bt, tb, in_b, in_t, in_i, gd0, gd1, gd2, gd3, is_NoneType_int, is_NoneType_bool, is_NoneType_str, is_NoneType_list, is_NoneType_tuple, is_bool_int, is_bool_bool, is_bool_str, is_bool_list, is_bool_tuple, is_int_int, is_int_bool, is_int_str, is_int_list, is_int_tuple, is_str_int, is_str_bool, is_str_str, is_str_list, is_str_tuple, is_list_int, is_list_bool, is_list_str, is_list_list, is_list_tuple, is_tuple_int, is_tuple_bool, is_tuple_str, is_tuple_list, is_tuple_tuple, is_dict_int, is_dict_bool, is_dict_str, is_dict_list, is_dict_tuple, isiDs, L2.atI, L2.ixN, big]) (lesser_odd k (by show _ ≤ 1000000; omega) h ho)
theorem extreme1x (k : Nat) {ds r : List D} {o : D} (h : ∀ d ∈ ds, Th d) (ho : o ∈ odds) (l : (ds ++ o :: r).length ≤ 4) : rn (k+5) 24 [.val (.int 1), .own (ds ++ o :: r)] = some (.exc 0 o [.val (.int 1), .own (ds ++ o :: r)]) :=
  ext1x k l (by simp [evSs, evS, evE, evEs, evB, evC, evO, evP, evI, callD, argSl, argSls, bors, wb, frz, frzs, sees, R.see, lockS, unlockS, asgS, asgR, retR, setD, asgT, unlockO, backA, endF, nIf, nIfs, isAnd, truD, RD.r, binD, cmpD, biD, ixD, Mn.Loc, keyD, meD, recv, gtD, apD, ↓evS_fr, ↓evE_lc, ↓evE_srt, eq_ss, eq_ii, eq_is, eq_si, ok_b, ok_t, bt, tb, in_b, in_t, in_i, gd0, gd1, gd2, gd3, is_NoneType_int, is_NoneType_bool, is_NoneType_str, is_NoneType_list, is_NoneType_tuple, is_bool_int, is_bool_bool, is_bool_str, is_bool_list, is_bool_tuple, is_int_int, is_int_bool, is_int_str, is_int_list, is_int_tuple, is_str_int, is_str_bool, is_str_str, is_str_list, is_str_tuple, is_list_int, is_list_bool, is_list_str, is_list_list, is_list_tuple, is_tuple_int, is_tuple_bool, is_tuple_str, is_tuple_list, is_tuple_tuple, is_dict_int, is_dict_bool, is_dict_str, is_dict_list, is_dict_tuple, isiDs, L2.atI, L2.ixN, big]) (greater_odd k (by show _ ≤ 1000000; omega) h ho)
def nlk : Sl → Bool
  | .lock _ => false
  | _ => true
theorem asgS_if (np : Nat × Nat) (i : Nat) (v : Sl) (δ : List Sl) : asgS np i v δ = if (np.1 ≤ i ∧ i < np.2) ∧ (δ[i]?).map nlk = some true then some (δ.set i v) else none := by
  unfold asgS
  by_cases c : Mn.Loc np i
  · rw [if_pos c]
    split
    · rename_i z; simp [evSs, evS, evE, evEs, evB, evC, evO, evP, evI, callD, argSl, argSls, bors, wb, frz, frzs, sees, R.see, lockS, unlockS, asgS, asgR, retR, setD, asgT, unlockO, backA, endF, nIf, nIfs, isAnd, truD, RD.r, binD, cmpD, biD, ixD, Mn.Loc, keyD, meD, recv, gtD, apD, ↓evS_fr, ↓evE_lc, ↓evE_srt, eq_ss, eq_ii, eq_is, eq_si, ok_b, ok_t, bt, tb, in_b, in_t, in_i, gd0, gd1, gd2, gd3, is_NoneType_int, is_NoneType_bool, is_NoneType_str, is_NoneType_list, is_NoneType_tuple, is_bool_int, is_bool_bool, is_bool_str, is_bool_list, is_bool_tuple, is_int_int, is_int_bool, is_int_str, is_int_list, is_int_tuple, is_str_int, is_str_bool, is_str_str, is_str_list, is_str_tuple, is_list_int, is_list_bool, is_list_str, is_list_list, is_list_tuple, is_tuple_int, is_tuple_bool, is_tuple_str, is_tuple_list, is_tuple_tuple, is_dict_int, is_dict_bool, is_dict_str, is_dict_list, is_dict_tuple, isiDs, L2.atI, L2.ixN, big, z, nlk]
    · rename_i z q; rw [if_pos ⟨c, by cases s : (‹Sl› : Sl) <;> simp_all [nlk]⟩]
    · rename_i z; simp [evSs, evS, evE, evEs, evB, evC, evO, evP, evI, callD, argSl, argSls, bors, wb, frz, frzs, sees, R.see, lockS, unlockS, asgS, asgR, retR, setD, asgT, unlockO, backA, endF, nIf, nIfs, isAnd, truD, RD.r, binD, cmpD, biD, ixD, Mn.Loc, keyD, meD, recv, gtD, apD, ↓evS_fr, ↓evE_lc, ↓evE_srt, eq_ss, eq_ii, eq_is, eq_si, ok_b, ok_t, bt, tb, in_b, in_t, in_i, gd0, gd1, gd2, gd3, is_NoneType_int, is_NoneType_bool, is_NoneType_str, is_NoneType_list, is_NoneType_tuple, is_bool_int, is_bool_bool, is_bool_str, is_bool_list, is_bool_tuple, is_int_int, is_int_bool, is_int_str, is_int_list, is_int_tuple, is_str_int, is_str_bool, is_str_str, is_str_list, is_str_tuple, is_list_int, is_list_bool, is_list_str, is_list_list, is_list_tuple, is_tuple_int, is_tuple_bool, is_tuple_str, is_tuple_list, is_tuple_tuple, is_dict_int, is_dict_bool, is_dict_str, is_dict_list, is_dict_tuple, isiDs, L2.atI, L2.ixN, big, z]
  · rw [if_neg c, if_neg fun q => c q.1]
theorem lc_to {fe : List Sl → Option EO} {fc : List Sl → Option (Bool × List Sl)} {x : Nat} {δ : List Sl} (p : D → Bool) (g : D → D) {xs : List D} (ys : List D) (s : Sl) (h0 : δ.set x s = δ) (hy : (xs.filter p).map g = ys)
    (hc : ∀ d ∈ xs, fc (δ.set x (.val d)) = some (p d, δ.set x (.val d))) (he : ∀ d ∈ xs, p d = true → fe (δ.set x (.val d)) = some (.ok (.val (g d)) (δ.set x (.val d)))) (hl : xs.length ≤ 1000000) :
    lcL fe fc x xs δ [] = some (ys, δ.set x (xs.foldl (fun _ d => .val d) s)) := by
  rw [lc_eq p g s h0 hc he (by simpa using hl), hy, List.nil_append]
theorem lc_map {fe : List Sl → Option EO} {fc : List Sl → Option (Bool × List Sl)} {x : Nat} {δ : List Sl} (g : D → D) {xs : List D} (ys : List D) (s : Sl) (h0 : δ.set x s = δ) (hy : xs.map g = ys)
    (hc : ∀ d ∈ xs, fc (δ.set x (.val d)) = some (true, δ.set x (.val d))) (he : ∀ d ∈ xs, fe (δ.set x (.val d)) = some (.ok (.val (g d)) (δ.set x (.val d)))) (hl : xs.length ≤ 1000000) :
    lcL fe fc x xs δ [] = some (ys, δ.set x (xs.foldl (fun _ d => .val d) s)) :=
  lc_to (fun _ => true) g ys s h0 (by rw [← hy, List.filter_eq_self.mpr (by simp [evSs, evS, evE, evEs, evB, evC, evO, evP, evI, callD, argSl, argSls, bors, wb, frz, frzs, sees, R.see, lockS, unlockS, asgS, asgR, retR, setD, asgT, unlockO, backA, endF, nIf, nIfs, isAnd, truD, RD.r, binD, cmpD, biD, ixD, Mn.Loc, keyD, meD, recv, gtD, apD, ↓evS_fr, ↓evE_lc, ↓evE_srt, eq_ss, eq_ii, eq_is, eq_si, ok_b, ok_t, bt, tb, in_b, in_t, in_i, gd0, gd1, gd2, gd3, is_NoneType_int, is_NoneType_bool, is_NoneType_str, is_NoneType_list, is_NoneType_tuple, is_bool_int, is_bool_bool, is_bool_str, is_bool_list, is_bool_tuple, is_int_int, is_int_bool, is_int_str, is_int_list, is_int_tuple, is_str_int, is_str_bool, is_str_str, is_str_list, is_str_tuple, is_list_int, is_list_bool, is_list_str, is_list_list, is_list_tuple, is_tuple_int, is_tuple_bool, is_tuple_str, is_tuple_list, is_tuple_tuple, is_dict_int, is_dict_bool, is_dict_str, is_dict_list, is_dict_tuple, isiDs, L2.atI, L2.ixN, big])]) hc (fun d hd _ => he d hd) hl
theorem eq_bb (a b : Bool) : eqD (.bl a) (.bl b) = some (a == b) := rfl
theorem nl_un : nlk .un = true := rfl
theorem nl_val (d : D) : nlk (.val d) = true := rfl
theorem nl_own (d : List D) : nlk (.own d) = true := rfl
end K11

-- P11i
set_option Elab.async false
set_option linter.all false
set_option maxRecDepth 100000
set_option maxHeartbeats 4000000
set_option autoImplicit false
namespace K11
open PySem Mn
theorem th_eq {x y : D} (hx : Th x) (hy : Th y) : eqD x y = some (decide (num x = num y)) := by
  cases hx with
  | bot => cases hy with
    | bot => simp [evSs, evS, evE, evEs, evB, evC, evO, evP, evI, callD, argSl, argSls, bors, wb, frz, frzs, sees, R.see, lockS, unlockS, asgR, retR, setD, asgT, unlockO, backA, endF, nIf, nIfs, isAnd, truD, RD.r, binD, cmpD, biD, ixD, Mn.Loc, keyD, meD, recv, gtD, apD, ↓evS_fr, ↓evE_lc, ↓evE_srt, eq_ss, eq_ii, eq_is, eq_si, ok_b, ok_t, bt, tb, in_b, in_t, in_i, gd0, gd1, gd2, gd3, is_NoneType_int, is_NoneType_bool, is_NoneType_str, is_NoneType_list, is_NoneType_tuple, is_bool_int, is_bool_bool, is_bool_str, is_bool_list, is_bool_tuple, is_int_int, is_int_bool, is_int_str, is_int_list, is_int_tuple, is_str_int, is_str_bool, is_str_str, is_str_list, is_str_tuple, is_list_int, is_list_bool, is_list_str, is_list_list, is_list_tuple, is_tuple_int, is_tuple_bool, is_tuple_str, is_tuple_list, is_tuple_tuple, is_dict_int, is_dict_bool, is_dict_str, is_dict_list, is_dict_tuple, isiDs, L2.atI, L2.ixN, big, asgS_if, nl_un, nl_val, nl_own]
    | top => rw [decide_eq_false (by rw [num_b, num_t]; decide)]; simp [evSs, evS, evE, evEs, evB, evC, evO, evP, evI, callD, argSl, argSls, bors, wb, frz, frzs, sees, R.see, lockS, unlockS, asgR, retR, setD, asgT, unlockO, backA, endF, nIf, nIfs, isAnd, truD, RD.r, binD, cmpD, biD, ixD, Mn.Loc, keyD, meD, recv, gtD, apD, ↓evS_fr, ↓evE_lc, ↓evE_srt, eq_ss, eq_ii, eq_is, eq_si, ok_b, ok_t, bt, tb, in_b, in_t, in_i, gd0, gd1, gd2, gd3, is_NoneType_int, is_NoneType_bool, is_NoneType_str, is_NoneType_list, is_NoneType_tuple, is_bool_int, is_bool_bool, is_bool_str, is_bool_list, is_bool_tuple, is_int_int, is_int_bool, is_int_str, is_int_list, is_int_tuple, is_str_int, is_str_bool, is_str_str, is_str_list, is_str_tuple, is_list_int, is_list_bool, is_list_str, is_list_list, is_list_tuple, is_tuple_int, is_tuple_bool, is_tuple_str, is_tuple_list, is_tuple_tuple, is_dict_int, is_dict_bool, is_dict_str, is_dict_list, is_dict_tuple, isiDs, L2.atI, L2.ixN, big, asgS_if, nl_un, nl_val, nl_own]
    | int j h1 h2 => rw [decide_eq_false (by rw [num_b]; intro z; exact (th_i h1 h2).1 (Int.le_of_eq z.symm))]; simp [evSs, evS, evE, evEs, evB, evC, evO, evP, evI, callD, argSl, argSls, bors, wb, frz, frzs, sees, R.see, lockS, unlockS, asgR, retR, setD, asgT, unlockO, backA, endF, nIf, nIfs, isAnd, truD, RD.r, binD, cmpD, biD, ixD, Mn.Loc, keyD, meD, recv, gtD, apD, ↓evS_fr, ↓evE_lc, ↓evE_srt, eq_ss, eq_ii, eq_is, eq_si, ok_b, ok_t, bt, tb, in_b, in_t, in_i, gd0, gd1, gd2, gd3, is_NoneType_int, is_NoneType_bool, is_NoneType_str, is_NoneType_list, is_NoneType_tuple, is_bool_int, is_bool_bool, is_bool_str, is_bool_list, is_bool_tuple, is_int_int, is_int_bool, is_int_str, is_int_list, is_int_tuple, is_str_int, is_str_bool, is_str_str, is_str_list, is_str_tuple, is_list_int, is_list_bool, is_list_str, is_list_list, is_list_tuple, is_tuple_int, is_tuple_bool, is_tuple_str, is_tuple_list, is_tuple_tuple, is_dict_int, is_dict_bool, is_dict_str, is_dict_list, is_dict_tuple, isiDs, L2.atI, L2.ixN, big, asgS_if, nl_un, nl_val, nl_own]
  | top => cases hy with
    | bot => rw [decide_eq_false (by rw [num_b, num_t]; decide)]; simp [evSs, evS, evE, evEs, evB, evC, evO, evP, evI, callD, argSl, argSls, bors, wb, frz, frzs, sees, R.see, lockS, unlockS, asgR, retR, setD, asgT, unlockO, backA, endF, nIf, nIfs, isAnd, truD, RD.r, binD, cmpD, biD, ixD, Mn.Loc, keyD, meD, recv, gtD, apD, ↓evS_fr, ↓evE_lc, ↓evE_srt, eq_ss, eq_ii, eq_is, eq_si, ok_b, ok_t, bt, tb, in_b, in_t, in_i, gd0, gd1, gd2, gd3, is_NoneType_int, is_NoneType_bool, is_NoneType_str, is_NoneType_list, is_NoneType_tuple, is_bool_int, is_bool_bool, is_bool_str, is_bool_list, is_bool_tuple, is_int_int, is_int_bool, is_int_str, is_int_list, is_int_tuple, is_str_int, is_str_bool, is_str_str, is_str_list, is_str_tuple, is_list_int, is_list_bool, is_list_str, is_list_list, is_list_tuple, is_tuple_int, is_tuple_bool, is_tuple_str, is_tuple_list, is_tuple_tuple, is_dict_int, is_dict_bool, is_dict_str, is_dict_list, is_dict_tuple, isiDs, L2.atI, L2.ixN, big, asgS_if, nl_un, nl_val, nl_own]
    | top => simp [evSs, evS, evE, evEs, evB, evC, evO, evP, evI, callD, argSl, argSls, bors, wb, frz, frzs, sees, R.see, lockS, unlockS, asgR, retR, setD, asgT, unlockO, backA, endF, nIf, nIfs, isAnd, truD, RD.r, binD, cmpD, biD, ixD, Mn.Loc, keyD, meD, recv, gtD, apD, ↓evS_fr, ↓evE_lc, ↓evE_srt, eq_ss, eq_ii, eq_is, eq_si, ok_b, ok_t, bt, tb, in_b, in_t, in_i, gd0, gd1, gd2, gd3, is_NoneType_int, is_NoneType_bool, is_NoneType_str, is_NoneType_list, is_NoneType_tuple, is_bool_int, is_bool_bool, is_bool_str, is_bool_list, is_bool_tuple, is_int_int, is_int_bool, is_int_str, is_int_list, is_int_tuple, is_str_int, is_str_bool, is_str_str, is_str_list, is_str_tuple, is_list_int, is_list_bool, is_list_str, is_list_list, is_list_tuple, is_tuple_int, is_tuple_bool, is_tuple_str, is_tuple_list, is_tuple_tuple, is_dict_int, is_dict_bool, is_dict_str, is_dict_list, is_dict_tuple, isiDs, L2.atI, L2.ixN, big, asgS_if, nl_un, nl_val, nl_own]
    | int j h1 h2 => rw [decide_eq_false (by rw [num_t]; intro z; exact (th_i h1 h2).2.2.2 (Int.le_of_eq z))]; simp [evSs, evS, evE, evEs, evB, evC, evO, evP, evI, callD, argSl, argSls, bors, wb, frz, frzs, sees, R.see, lockS, unlockS, asgR, retR, setD, asgT, unlockO, backA, endF, nIf, nIfs, isAnd, truD, RD.r, binD, cmpD, biD, ixD, Mn.Loc, keyD, meD, recv, gtD, apD, ↓evS_fr, ↓evE_lc, ↓evE_srt, eq_ss, eq_ii, eq_is, eq_si, ok_b, ok_t, bt, tb, in_b, in_t, in_i, gd0, gd1, gd2, gd3, is_NoneType_int, is_NoneType_bool, is_NoneType_str, is_NoneType_list, is_NoneType_tuple, is_bool_int, is_bool_bool, is_bool_str, is_bool_list, is_bool_tuple, is_int_int, is_int_bool, is_int_str, is_int_list, is_int_tuple, is_str_int, is_str_bool, is_str_str, is_str_list, is_str_tuple, is_list_int, is_list_bool, is_list_str, is_list_list, is_list_tuple, is_tuple_int, is_tuple_bool, is_tuple_str, is_tuple_list, is_tuple_tuple, is_dict_int, is_dict_bool, is_dict_str, is_dict_list, is_dict_tuple, isiDs, L2.atI, L2.ixN, big, asgS_if, nl_un, nl_val, nl_own]
  | int i g1 g2 => cases hy with
    | bot => rw [decide_eq_false (by rw [num_b]; intro z; exact (th_i g1 g2).1 (Int.le_of_eq z))]; simp [evSs, evS, evE, evEs, evB, evC, evO, evP, evI, callD, argSl, argSls, bors, wb, frz, frzs, sees, R.see, lockS, unlockS, asgR, retR, setD, asgT, unlockO, backA, endF, nIf, nIfs, isAnd, truD, RD.r, binD, cmpD, biD, ixD, Mn.Loc, keyD, meD, recv, gtD, apD, ↓evS_fr, ↓evE_lc, ↓evE_srt, eq_ss, eq_ii, eq_is, eq_si, ok_b, ok_t, bt, tb, in_b, in_t, in_i, gd0, gd1, gd2, gd3, is_NoneType_int, is_NoneType_bool, is_NoneType_str, is_NoneType_list, is_NoneType_tuple, is_bool_int, is_bool_bool, is_bool_str, is_bool_list, is_bool_tuple, is_int_int, is_int_bool, is_int_str, is_int_list, is_int_tuple, is_str_int, is_str_bool, is_str_str, is_str_list, is_str_tuple, is_list_int, is_list_bool, is_list_str, is_list_list, is_list_tuple, is_tuple_int, is_tuple_bool, is_tuple_str, is_tuple_list, is_tuple_tuple, is_dict_int, is_dict_bool, is_dict_str, is_dict_list, is_dict_tuple, isiDs, L2.atI, L2.ixN, big, asgS_if, nl_un, nl_val, nl_own]
    | top => rw [decide_eq_false (by rw [num_t]; intro z; exact (th_i g1 g2).2.2.2 (Int.le_of_eq z.symm))]; simp [evSs, evS, evE, evEs, evB, evC, evO, evP, evI, callD, argSl, argSls, bors, wb, frz, frzs, sees, R.see, lockS, unlockS, asgR, retR, setD, asgT, unlockO, backA, endF, nIf, nIfs, isAnd, truD, RD.r, binD, cmpD, biD, ixD, Mn.Loc, keyD, meD, recv, gtD, apD, ↓evS_fr, ↓evE_lc, ↓evE_srt, eq_ss, eq_ii, eq_is, eq_si, ok_b, ok_t, bt, tb, in_b, in_t, in_i, gd0, gd1, gd2, gd3, is_NoneType_int, is_NoneType_bool, is_NoneType_str, is_NoneType_list, is_NoneType_tuple, is_bool_int, is_bool_bool, is_bool_str, is_bool_list, is_bool_tuple, is_int_int, is_int_bool, is_int_str, is_int_list, is_int_tuple, is_str_int, is_str_bool, is_str_str, is_str_list, is_str_tuple, is_list_int, is_list_bool, is_list_str, is_list_list, is_list_tuple, is_tuple_int, is_tuple_bool, is_tuple_str, is_tuple_list, is_tuple_tuple, is_dict_int, is_dict_bool, is_dict_str, is_dict_list, is_dict_tuple, isiDs, L2.atI, L2.ixN, big, asgS_if, nl_un, nl_val, nl_own]
    | int j h1 h2 =>
      simp [evSs, evS, evE, evEs, evB, evC, evO, evP, evI, callD, argSl, argSls, bors, wb, frz, frzs, sees, R.see, lockS, unlockS, asgR, retR, setD, asgT, unlockO, backA, endF, nIf, nIfs, isAnd, truD, RD.r, binD, cmpD, biD, ixD, Mn.Loc, keyD, meD, recv, gtD, apD, ↓evS_fr, ↓evE_lc, ↓evE_srt, eq_ss, eq_ii, eq_is, eq_si, ok_b, ok_t, bt, tb, in_b, in_t, in_i, gd0, gd1, gd2, gd3, is_NoneType_int, is_NoneType_bool, is_NoneType_str, is_NoneType_list, is_NoneType_tuple, is_bool_int, is_bool_bool, is_bool_str, is_bool_list, is_bool_tuple, is_int_int, is_int_bool, is_int_str, is_int_list, is_int_tuple, is_str_int, is_str_bool, is_str_str, is_str_list, is_str_tuple, is_list_int, is_list_bool, is_list_str, is_list_list, is_list_tuple, is_tuple_int, is_tuple_bool, is_tuple_str, is_tuple_list, is_tuple_tuple, is_dict_int, is_dict_bool, is_dict_str, is_dict_list, is_dict_tuple, isiDs, L2.atI, L2.ixN, big, asgS_if, nl_un, nl_val, nl_own, num]
      exact decide_eq_decide.mpr Iff.rfl
theorem lev_th (d : D) (i : Int) : Th (lev d i) := by
  unfold lev
  split
  · exact .top
  · exact .bot
theorem eq_lev (x y : D) (i j : Int) : eqD (lev x i) (lev y j) = some (decide (i ≤ num x) == decide (j ≤ num y)) := by
  unfold lev
  by_cases p : i ≤ num x <;> by_cases q : j ≤ num y <;> simp [evSs, evS, evE, evEs, evB, evC, evO, evP, evI, callD, argSl, argSls, bors, wb, frz, frzs, sees, R.see, lockS, unlockS, asgR, retR, setD, asgT, unlockO, backA, endF, nIf, nIfs, isAnd, truD, RD.r, binD, cmpD, biD, ixD, Mn.Loc, keyD, meD, recv, gtD, apD, ↓evS_fr, ↓evE_lc, ↓evE_srt, eq_ss, eq_ii, eq_is, eq_si, ok_b, ok_t, bt, tb, in_b, in_t, in_i, gd0, gd1, gd2, gd3, is_NoneType_int, is_NoneType_bool, is_NoneType_str, is_NoneType_list, is_NoneType_tuple, is_bool_int, is_bool_bool, is_bool_str, is_bool_list, is_bool_tuple, is_int_int, is_int_bool, is_int_str, is_int_list, is_int_tuple, is_str_int, is_str_bool, is_str_str, is_str_list, is_str_tuple, is_list_int, is_list_bool, is_list_str, is_list_list, is_list_tuple, is_tuple_int, is_tuple_bool, is_tuple_str, is_tuple_list, is_tuple_tuple, is_dict_int, is_dict_bool, is_dict_str, is_dict_list, is_dict_tuple, isiDs, L2.atI, L2.ixN, big, asgS_if, nl_un, nl_val, nl_own, p, q]
def marks (x y : D) : List D := [x, y].filter isI
def near (x y : D) : List D := marks x y ++ (marks x y).map (fun d => .int (num d + 1)) ++ [.int 0]
theorem near_all {x y : D} (hx : Ts x) (hy : Ts y) : ((near x y).all fun d => decide (num d ≤ num x) == decide (num d ≤ num y)) = decide (num x = num y) := by
  have e0 : num (.int 0) = 0 := rfl
  have ei : ∀ i, num (.int i) = i := fun _ => rfl
  have fB : isI sB = false := rfl
  have fT : isI sT = false := rfl
  have fI : ∀ i, isI (.int i) = true := fun _ => rfl
  have e2 : (10 : Int) ^ 64 = 10000000000000000000000000000000000000000000000000000000000000000 := by decide +kernel
  rw [Bool.eq_iff_iff]
  cases hx with
  | bot => cases hy with
    | bot => simp [evSs, evS, evE, evEs, evB, evC, evO, evP, evI, callD, argSl, argSls, bors, wb, frz, frzs, sees, R.see, lockS, unlockS, asgR, retR, setD, asgT, unlockO, backA, endF, nIf, nIfs, isAnd, truD, RD.r, binD, cmpD, biD, ixD, Mn.Loc, keyD, meD, recv, gtD, apD, ↓evS_fr, ↓evE_lc, ↓evE_srt, eq_ss, eq_ii, eq_is, eq_si, ok_b, ok_t, bt, tb, in_b, in_t, in_i, gd0, gd1, gd2, gd3, is_NoneType_int, is_NoneType_bool, is_NoneType_str, is_NoneType_list, is_NoneType_tuple, is_bool_int, is_bool_bool, is_bool_str, is_bool_list, is_bool_tuple, is_int_int, is_int_bool, is_int_str, is_int_list, is_int_tuple, is_str_int, is_str_bool, is_str_str, is_str_list, is_str_tuple, is_list_int, is_list_bool, is_list_str, is_list_list, is_list_tuple, is_tuple_int, is_tuple_bool, is_tuple_str, is_tuple_list, is_tuple_tuple, is_dict_int, is_dict_bool, is_dict_str, is_dict_list, is_dict_tuple, isiDs, L2.atI, L2.ixN, big, asgS_if, nl_un, nl_val, nl_own]
    | top => simp [evSs, evS, evE, evEs, evB, evC, evO, evP, evI, callD, argSl, argSls, bors, wb, frz, frzs, sees, R.see, lockS, unlockS, asgR, retR, setD, asgT, unlockO, backA, endF, nIf, nIfs, isAnd, truD, RD.r, binD, cmpD, biD, ixD, Mn.Loc, keyD, meD, recv, gtD, apD, ↓evS_fr, ↓evE_lc, ↓evE_srt, eq_ss, eq_ii, eq_is, eq_si, ok_b, ok_t, bt, tb, in_b, in_t, in_i, gd0, gd1, gd2, gd3, is_NoneType_int, is_NoneType_bool, is_NoneType_str, is_NoneType_list, is_NoneType_tuple, is_bool_int, is_bool_bool, is_bool_str, is_bool_list, is_bool_tuple, is_int_int, is_int_bool, is_int_str, is_int_list, is_int_tuple, is_str_int, is_str_bool, is_str_str, is_str_list, is_str_tuple, is_list_int, is_list_bool, is_list_str, is_list_list, is_list_tuple, is_tuple_int, is_tuple_bool, is_tuple_str, is_tuple_list, is_tuple_tuple, is_dict_int, is_dict_bool, is_dict_str, is_dict_list, is_dict_tuple, isiDs, L2.atI, L2.ixN, big, asgS_if, nl_un, nl_val, nl_own, near, marks, List.filter, fB, fT, num_b, num_t, ei]
    | int j h1 h2 =>
      simp [evSs, evS, evE, evEs, evB, evC, evO, evP, evI, callD, argSl, argSls, bors, wb, frz, frzs, sees, R.see, lockS, unlockS, asgR, retR, setD, asgT, unlockO, backA, endF, nIf, nIfs, isAnd, truD, RD.r, binD, cmpD, biD, ixD, Mn.Loc, keyD, meD, recv, gtD, apD, ↓evS_fr, ↓evE_lc, ↓evE_srt, eq_ss, eq_ii, eq_is, eq_si, ok_b, ok_t, bt, tb, in_b, in_t, in_i, gd0, gd1, gd2, gd3, is_NoneType_int, is_NoneType_bool, is_NoneType_str, is_NoneType_list, is_NoneType_tuple, is_bool_int, is_bool_bool, is_bool_str, is_bool_list, is_bool_tuple, is_int_int, is_int_bool, is_int_str, is_int_list, is_int_tuple, is_str_int, is_str_bool, is_str_str, is_str_list, is_str_tuple, is_list_int, is_list_bool, is_list_str, is_list_list, is_list_tuple, is_tuple_int, is_tuple_bool, is_tuple_str, is_tuple_list, is_tuple_tuple, is_dict_int, is_dict_bool, is_dict_str, is_dict_list, is_dict_tuple, isiDs, L2.atI, L2.ixN, big, asgS_if, nl_un, nl_val, nl_own, near, marks, List.filter, fB, fI, num_b, ei]
      omega
  | top => cases hy with
    | bot => simp [evSs, evS, evE, evEs, evB, evC, evO, evP, evI, callD, argSl, argSls, bors, wb, frz, frzs, sees, R.see, lockS, unlockS, asgR, retR, setD, asgT, unlockO, backA, endF, nIf, nIfs, isAnd, truD, RD.r, binD, cmpD, biD, ixD, Mn.Loc, keyD, meD, recv, gtD, apD, ↓evS_fr, ↓evE_lc, ↓evE_srt, eq_ss, eq_ii, eq_is, eq_si, ok_b, ok_t, bt, tb, in_b, in_t, in_i, gd0, gd1, gd2, gd3, is_NoneType_int, is_NoneType_bool, is_NoneType_str, is_NoneType_list, is_NoneType_tuple, is_bool_int, is_bool_bool, is_bool_str, is_bool_list, is_bool_tuple, is_int_int, is_int_bool, is_int_str, is_int_list, is_int_tuple, is_str_int, is_str_bool, is_str_str, is_str_list, is_str_tuple, is_list_int, is_list_bool, is_list_str, is_list_list, is_list_tuple, is_tuple_int, is_tuple_bool, is_tuple_str, is_tuple_list, is_tuple_tuple, is_dict_int, is_dict_bool, is_dict_str, is_dict_list, is_dict_tuple, isiDs, L2.atI, L2.ixN, big, asgS_if, nl_un, nl_val, nl_own, near, marks, List.filter, fB, fT, num_b, num_t, ei]
    | top => simp [evSs, evS, evE, evEs, evB, evC, evO, evP, evI, callD, argSl, argSls, bors, wb, frz, frzs, sees, R.see, lockS, unlockS, asgR, retR, setD, asgT, unlockO, backA, endF, nIf, nIfs, isAnd, truD, RD.r, binD, cmpD, biD, ixD, Mn.Loc, keyD, meD, recv, gtD, apD, ↓evS_fr, ↓evE_lc, ↓evE_srt, eq_ss, eq_ii, eq_is, eq_si, ok_b, ok_t, bt, tb, in_b, in_t, in_i, gd0, gd1, gd2, gd3, is_NoneType_int, is_NoneType_bool, is_NoneType_str, is_NoneType_list, is_NoneType_tuple, is_bool_int, is_bool_bool, is_bool_str, is_bool_list, is_bool_tuple, is_int_int, is_int_bool, is_int_str, is_int_list, is_int_tuple, is_str_int, is_str_bool, is_str_str, is_str_list, is_str_tuple, is_list_int, is_list_bool, is_list_str, is_list_list, is_list_tuple, is_tuple_int, is_tuple_bool, is_tuple_str, is_tuple_list, is_tuple_tuple, is_dict_int, is_dict_bool, is_dict_str, is_dict_list, is_dict_tuple, isiDs, L2.atI, L2.ixN, big, asgS_if, nl_un, nl_val, nl_own]
    | int j h1 h2 =>
      simp [evSs, evS, evE, evEs, evB, evC, evO, evP, evI, callD, argSl, argSls, bors, wb, frz, frzs, sees, R.see, lockS, unlockS, asgR, retR, setD, asgT, unlockO, backA, endF, nIf, nIfs, isAnd, truD, RD.r, binD, cmpD, biD, ixD, Mn.Loc, keyD, meD, recv, gtD, apD, ↓evS_fr, ↓evE_lc, ↓evE_srt, eq_ss, eq_ii, eq_is, eq_si, ok_b, ok_t, bt, tb, in_b, in_t, in_i, gd0, gd1, gd2, gd3, is_NoneType_int, is_NoneType_bool, is_NoneType_str, is_NoneType_list, is_NoneType_tuple, is_bool_int, is_bool_bool, is_bool_str, is_bool_list, is_bool_tuple, is_int_int, is_int_bool, is_int_str, is_int_list, is_int_tuple, is_str_int, is_str_bool, is_str_str, is_str_list, is_str_tuple, is_list_int, is_list_bool, is_list_str, is_list_list, is_list_tuple, is_tuple_int, is_tuple_bool, is_tuple_str, is_tuple_list, is_tuple_tuple, is_dict_int, is_dict_bool, is_dict_str, is_dict_list, is_dict_tuple, isiDs, L2.atI, L2.ixN, big, asgS_if, nl_un, nl_val, nl_own, near, marks, List.filter, fT, fI, num_t, ei]
      omega
  | int i g1 g2 => cases hy with
    | bot =>
      simp [evSs, evS, evE, evEs, evB, evC, evO, evP, evI, callD, argSl, argSls, bors, wb, frz, frzs, sees, R.see, lockS, unlockS, asgR, retR, setD, asgT, unlockO, backA, endF, nIf, nIfs, isAnd, truD, RD.r, binD, cmpD, biD, ixD, Mn.Loc, keyD, meD, recv, gtD, apD, ↓evS_fr, ↓evE_lc, ↓evE_srt, eq_ss, eq_ii, eq_is, eq_si, ok_b, ok_t, bt, tb, in_b, in_t, in_i, gd0, gd1, gd2, gd3, is_NoneType_int, is_NoneType_bool, is_NoneType_str, is_NoneType_list, is_NoneType_tuple, is_bool_int, is_bool_bool, is_bool_str, is_bool_list, is_bool_tuple, is_int_int, is_int_bool, is_int_str, is_int_list, is_int_tuple, is_str_int, is_str_bool, is_str_str, is_str_list, is_str_tuple, is_list_int, is_list_bool, is_list_str, is_list_list, is_list_tuple, is_tuple_int, is_tuple_bool, is_tuple_str, is_tuple_list, is_tuple_tuple, is_dict_int, is_dict_bool, is_dict_str, is_dict_list, is_dict_tuple, isiDs, L2.atI, L2.ixN, big, asgS_if, nl_un, nl_val, nl_own, near, marks, List.filter, fB, fI, num_b, ei]
      omega
    | top =>
      simp [evSs, evS, evE, evEs, evB, evC, evO, evP, evI, callD, argSl, argSls, bors, wb, frz, frzs, sees, R.see, lockS, unlockS, asgR, retR, setD, asgT, unlockO, backA, endF, nIf, nIfs, isAnd, truD, RD.r, binD, cmpD, biD, ixD, Mn.Loc, keyD, meD, recv, gtD, apD, ↓evS_fr, ↓evE_lc, ↓evE_srt, eq_ss, eq_ii, eq_is, eq_si, ok_b, ok_t, bt, tb, in_b, in_t, in_i, gd0, gd1, gd2, gd3, is_NoneType_int, is_NoneType_bool, is_NoneType_str, is_NoneType_list, is_NoneType_tuple, is_bool_int, is_bool_bool, is_bool_str, is_bool_list, is_bool_tuple, is_int_int, is_int_bool, is_int_str, is_int_list, is_int_tuple, is_str_int, is_str_bool, is_str_str, is_str_list, is_str_tuple, is_list_int, is_list_bool, is_list_str, is_list_list, is_list_tuple, is_tuple_int, is_tuple_bool, is_tuple_str, is_tuple_list, is_tuple_tuple, is_dict_int, is_dict_bool, is_dict_str, is_dict_list, is_dict_tuple, isiDs, L2.atI, L2.ixN, big, asgS_if, nl_un, nl_val, nl_own, near, marks, List.filter, fT, fI, num_t, ei]
      omega
    | int j h1 h2 =>
      simp [evSs, evS, evE, evEs, evB, evC, evO, evP, evI, callD, argSl, argSls, bors, wb, frz, frzs, sees, R.see, lockS, unlockS, asgR, retR, setD, asgT, unlockO, backA, endF, nIf, nIfs, isAnd, truD, RD.r, binD, cmpD, biD, ixD, Mn.Loc, keyD, meD, recv, gtD, apD, ↓evS_fr, ↓evE_lc, ↓evE_srt, eq_ss, eq_ii, eq_is, eq_si, ok_b, ok_t, bt, tb, in_b, in_t, in_i, gd0, gd1, gd2, gd3, is_NoneType_int, is_NoneType_bool, is_NoneType_str, is_NoneType_list, is_NoneType_tuple, is_bool_int, is_bool_bool, is_bool_str, is_bool_list, is_bool_tuple, is_int_int, is_int_bool, is_int_str, is_int_list, is_int_tuple, is_str_int, is_str_bool, is_str_str, is_str_list, is_str_tuple, is_list_int, is_list_bool, is_list_str, is_list_list, is_list_tuple, is_tuple_int, is_tuple_bool, is_tuple_str, is_tuple_list, is_tuple_tuple, is_dict_int, is_dict_bool, is_dict_str, is_dict_list, is_dict_tuple, isiDs, L2.atI, L2.ixN, big, asgS_if, nl_un, nl_val, nl_own, near, marks, List.filter, fI, ei]
      omega
theorem near_th {x y : D} (hx : Ts x) (hy : Ts y) : ∀ d ∈ near x y, ∃ i, d = .int i ∧ Th (.int i) := by
  have m : ∀ d ∈ marks x y, ∃ i : Int, d = .int i ∧ -1000000000000000000000000000000000000000000000000000000000000 ≤ i ∧ i ≤ 1000000000000000000000000000000000000000000000000000000000000 := by
    intro d hd
    obtain ⟨h1, h2⟩ := List.mem_filter.mp hd
    have : Ts d := by
      simp [evSs, evS, evE, evEs, evB, evC, evO, evP, evI, callD, argSl, argSls, bors, wb, frz, frzs, sees, R.see, lockS, unlockS, asgR, retR, setD, asgT, unlockO, backA, endF, nIf, nIfs, isAnd, truD, RD.r, binD, cmpD, biD, ixD, Mn.Loc, keyD, meD, recv, gtD, apD, ↓evS_fr, ↓evE_lc, ↓evE_srt, eq_ss, eq_ii, eq_is, eq_si, ok_b, ok_t, bt, tb, in_b, in_t, in_i, gd0, gd1, gd2, gd3, is_NoneType_int, is_NoneType_bool, is_NoneType_str, is_NoneType_list, is_NoneType_tuple, is_bool_int, is_bool_bool, is_bool_str, is_bool_list, is_bool_tuple, is_int_int, is_int_bool, is_int_str, is_int_list, is_int_tuple, is_str_int, is_str_bool, is_str_str, is_str_list, is_str_tuple, is_list_int, is_list_bool, is_list_str, is_list_list, is_list_tuple, is_tuple_int, is_tuple_bool, is_tuple_str, is_tuple_list, is_tuple_tuple, is_dict_int, is_dict_bool, is_dict_str, is_dict_list, is_dict_tuple, isiDs, L2.atI, L2.ixN, big, asgS_if, nl_un, nl_val, nl_own] at h1
      rcases h1 with rfl | rfl <;> assumption
    cases this with
    | int i a b => exact ⟨i, rfl, a, b⟩
    | _ => simp [evSs, evS, evE, evEs, evB, evC, evO, evP, evI, callD, argSl, argSls, bors, wb, frz, frzs, sees, R.see, lockS, unlockS, asgR, retR, setD, asgT, unlockO, backA, endF, nIf, nIfs, isAnd, truD, RD.r, binD, cmpD, biD, ixD, Mn.Loc, keyD, meD, recv, gtD, apD, ↓evS_fr, ↓evE_lc, ↓evE_srt, eq_ss, eq_ii, eq_is, eq_si, ok_b, ok_t, bt, tb, in_b, in_t, in_i, gd0, gd1, gd2, gd3, is_NoneType_int, is_NoneType_bool, is_NoneType_str, is_NoneType_list, is_NoneType_tuple, is_bool_int, is_bool_bool, is_bool_str, is_bool_list, is_bool_tuple, is_int_int, is_int_bool, is_int_str, is_int_list, is_int_tuple, is_str_int, is_str_bool, is_str_str, is_str_list, is_str_tuple, is_list_int, is_list_bool, is_list_str, is_list_list, is_list_tuple, is_tuple_int, is_tuple_bool, is_tuple_str, is_tuple_list, is_tuple_tuple, is_dict_int, is_dict_bool, is_dict_str, is_dict_list, is_dict_tuple, isiDs, L2.atI, L2.ixN, big, asgS_if, nl_un, nl_val, nl_own, isI] at h2
  intro d hd
  simp [evSs, evS, evE, evEs, evB, evC, evO, evP, evI, callD, argSl, argSls, bors, wb, frz, frzs, sees, R.see, lockS, unlockS, asgR, retR, setD, asgT, unlockO, backA, endF, nIf, nIfs, isAnd, truD, RD.r, binD, cmpD, biD, ixD, Mn.Loc, keyD, meD, recv, gtD, apD, ↓evS_fr, ↓evE_lc, ↓evE_srt, eq_ss, eq_ii, eq_is, eq_si, ok_b, ok_t, bt, tb, in_b, in_t, in_i, gd0, gd1, gd2, gd3, is_NoneType_int, is_NoneType_bool, is_NoneType_str, is_NoneType_list, is_NoneType_tuple, is_bool_int, is_bool_bool, is_bool_str, is_bool_list, is_bool_tuple, is_int_int, is_int_bool, is_int_str, is_int_list, is_int_tuple, is_str_int, is_str_bool, is_str_str, is_str_list, is_str_tuple, is_list_int, is_list_bool, is_list_str, is_list_list, is_list_tuple, is_tuple_int, is_tuple_bool, is_tuple_str, is_tuple_list, is_tuple_tuple, is_dict_int, is_dict_bool, is_dict_str, is_dict_list, is_dict_tuple, isiDs, L2.atI, L2.ixN, big, asgS_if, nl_un, nl_val, nl_own, near] at hd
  rcases hd with hd | ⟨e, he, rfl⟩ | rfl
  · obtain ⟨i, rfl, a, b⟩ := m d hd
    exact ⟨i, rfl, .of (by omega) (by omega)⟩
  · obtain ⟨i, rfl, a, b⟩ := m e he
    exact ⟨_, rfl, .of (by show _ ≤ i + 1; omega) (by show i + 1 ≤ _; omega)⟩
  · exact ⟨0, rfl, .of (by decide) (by decide)⟩
theorem shd_bl (b : Bool) : shD (.bl b) = some (.str (PyData.shown (.bool b))) := (bl_sh b).shd (by decide) (by decide)
theorem so_bl (b : Bool) : PyData.strOk (PyData.shown (.bool b)) = true := (bl_sh b).so
theorem pairs (k : Nat) {ds : List D} (h : ∀ d ∈ ds, Ts d) (l : ds.length ≤ 8) : rn (k+5) 26 [.own ds] = some (.ret (.val (.bl true)) [.own ds]) := by
  simp [evSs, evS, evE, evEs, evB, evC, evO, evP, evI, callD, argSl, argSls, bors, wb, frz, frzs, sees, R.see, lockS, unlockS, asgR, retR, setD, asgT, unlockO, backA, endF, nIf, nIfs, isAnd, truD, RD.r, binD, cmpD, biD, ixD, Mn.Loc, keyD, meD, recv, gtD, apD, ↓evS_fr, ↓evE_lc, ↓evE_srt, eq_ss, eq_ii, eq_is, eq_si, ok_b, ok_t, bt, tb, in_b, in_t, in_i, gd0, gd1, gd2, gd3, is_NoneType_int, is_NoneType_bool, is_NoneType_str, is_NoneType_list, is_NoneType_tuple, is_bool_int, is_bool_bool, is_bool_str, is_bool_list, is_bool_tuple, is_int_int, is_int_bool, is_int_str, is_int_list, is_int_tuple, is_str_int, is_str_bool, is_str_str, is_str_list, is_str_tuple, is_list_int, is_list_bool, is_list_str, is_list_list, is_list_tuple, is_tuple_int, is_tuple_bool, is_tuple_str, is_tuple_list, is_tuple_tuple, is_dict_int, is_dict_bool, is_dict_str, is_dict_list, is_dict_tuple, isiDs, L2.atI, L2.ixN, big, asgS_if, nl_un, nl_val, nl_own, fn26, b37]
  generalize hb : lpS (rn (k+4)) tf gd (1, 8) _ = fb
  have ml : ∀ x y, (marks x y).length ≤ 2 := fun x y => List.length_filter_le _ _
  have nl : ∀ x y, (near x y).length ≤ 5 := fun x y => by have := ml x y; simp [evSs, evS, evE, evEs, evB, evC, evO, evP, evI, callD, argSl, argSls, bors, wb, frz, frzs, sees, R.see, lockS, unlockS, asgR, retR, setD, asgT, unlockO, backA, endF, nIf, nIfs, isAnd, truD, RD.r, binD, cmpD, biD, ixD, Mn.Loc, keyD, meD, recv, gtD, apD, ↓evS_fr, ↓evE_lc, ↓evE_srt, eq_ss, eq_ii, eq_is, eq_si, ok_b, ok_t, bt, tb, in_b, in_t, in_i, gd0, gd1, gd2, gd3, is_NoneType_int, is_NoneType_bool, is_NoneType_str, is_NoneType_list, is_NoneType_tuple, is_bool_int, is_bool_bool, is_bool_str, is_bool_list, is_bool_tuple, is_int_int, is_int_bool, is_int_str, is_int_list, is_int_tuple, is_str_int, is_str_bool, is_str_str, is_str_list, is_str_tuple, is_list_int, is_list_bool, is_list_str, is_list_list, is_list_tuple, is_tuple_int, is_tuple_bool, is_tuple_str, is_tuple_list, is_tuple_tuple, is_dict_int, is_dict_bool, is_dict_str, is_dict_list, is_dict_tuple, isiDs, L2.atI, L2.ixN, big, asgS_if, nl_un, nl_val, nl_own, near]; omega
  obtain ⟨δ', e, s1, s2, s3, s4, q1, q2⟩ := fr_inv2 (np := (1, 8)) (fb := fb) (x := 1) (all := ds) (fun _ δ => ∃ s1 s2 s3 s4, δ = [.lock ds, s1, s2, s3, s4, .un, .un, .un] ∧ nlk s1 = true ∧ nlk s2 = true ∧ nlk s3 = true ∧ nlk s4 = true)
    (fun ys x zs δ he ⟨s1, s2, s3, s4, e1, n1, n2, n3, n4⟩ => by
      subst e1
      have hx := h x (by rw [← he]; simp [evSs, evS, evE, evEs, evB, evC, evO, evP, evI, callD, argSl, argSls, bors, wb, frz, frzs, sees, R.see, lockS, unlockS, asgR, retR, setD, asgT, unlockO, backA, endF, nIf, nIfs, isAnd, truD, RD.r, binD, cmpD, biD, ixD, Mn.Loc, keyD, meD, recv, gtD, apD, ↓evS_fr, ↓evE_lc, ↓evE_srt, eq_ss, eq_ii, eq_is, eq_si, ok_b, ok_t, bt, tb, in_b, in_t, in_i, gd0, gd1, gd2, gd3, is_NoneType_int, is_NoneType_bool, is_NoneType_str, is_NoneType_list, is_NoneType_tuple, is_bool_int, is_bool_bool, is_bool_str, is_bool_list, is_bool_tuple, is_int_int, is_int_bool, is_int_str, is_int_list, is_int_tuple, is_str_int, is_str_bool, is_str_str, is_str_list, is_str_tuple, is_list_int, is_list_bool, is_list_str, is_list_list, is_list_tuple, is_tuple_int, is_tuple_bool, is_tuple_str, is_tuple_list, is_tuple_tuple, is_dict_int, is_dict_bool, is_dict_str, is_dict_list, is_dict_tuple, isiDs, L2.atI, L2.ixN, big, asgS_if, nl_un, nl_val, nl_own])
      refine ⟨[.lock ds, .val x, s2, s3, s4, .un, .un, .un], ?_⟩
      subst hb
      simp [evSs, evS, evE, evEs, evB, evC, evO, evP, evI, callD, argSl, argSls, bors, wb, frz, frzs, sees, R.see, lockS, unlockS, asgR, retR, setD, asgT, unlockO, backA, endF, nIf, nIfs, isAnd, truD, RD.r, binD, cmpD, biD, ixD, Mn.Loc, keyD, meD, recv, gtD, apD, ↓evS_fr, ↓evE_lc, ↓evE_srt, eq_ss, eq_ii, eq_is, eq_si, ok_b, ok_t, bt, tb, in_b, in_t, in_i, gd0, gd1, gd2, gd3, is_NoneType_int, is_NoneType_bool, is_NoneType_str, is_NoneType_list, is_NoneType_tuple, is_bool_int, is_bool_bool, is_bool_str, is_bool_list, is_bool_tuple, is_int_int, is_int_bool, is_int_str, is_int_list, is_int_tuple, is_str_int, is_str_bool, is_str_str, is_str_list, is_str_tuple, is_list_int, is_list_bool, is_list_str, is_list_list, is_list_tuple, is_tuple_int, is_tuple_bool, is_tuple_str, is_tuple_list, is_tuple_tuple, is_dict_int, is_dict_bool, is_dict_str, is_dict_list, is_dict_tuple, isiDs, L2.atI, L2.ixN, big, asgS_if, nl_un, nl_val, nl_own, lpS, n1]
      generalize hb : lpS (rn (k+4)) tf gd (1, 8) _ = fb
      obtain ⟨δ', e, t2, t3, t4, q1, m2, m3, m4⟩ := fr_inv2 (np := (1, 8)) (fb := fb) (x := 2) (all := ds) (fun _ δ => ∃ s2 s3 s4, δ = [.lock ds, .val x, s2, s3, s4, .un, .un, .un] ∧ nlk s2 = true ∧ nlk s3 = true ∧ nlk s4 = true)
        (fun ys y zs δ he ⟨s2, s3, s4, e1, n2, n3, n4⟩ => by
          subst e1
          have hy := h y (by rw [← he]; simp [evSs, evS, evE, evEs, evB, evC, evO, evP, evI, callD, argSl, argSls, bors, wb, frz, frzs, sees, R.see, lockS, unlockS, asgR, retR, setD, asgT, unlockO, backA, endF, nIf, nIfs, isAnd, truD, RD.r, binD, cmpD, biD, ixD, Mn.Loc, keyD, meD, recv, gtD, apD, ↓evS_fr, ↓evE_lc, ↓evE_srt, eq_ss, eq_ii, eq_is, eq_si, ok_b, ok_t, bt, tb, in_b, in_t, in_i, gd0, gd1, gd2, gd3, is_NoneType_int, is_NoneType_bool, is_NoneType_str, is_NoneType_list, is_NoneType_tuple, is_bool_int, is_bool_bool, is_bool_str, is_bool_list, is_bool_tuple, is_int_int, is_int_bool, is_int_str, is_int_list, is_int_tuple, is_str_int, is_str_bool, is_str_str, is_str_list, is_str_tuple, is_list_int, is_list_bool, is_list_str, is_list_list, is_list_tuple, is_tuple_int, is_tuple_bool, is_tuple_str, is_tuple_list, is_tuple_tuple, is_dict_int, is_dict_bool, is_dict_str, is_dict_list, is_dict_tuple, isiDs, L2.atI, L2.ixN, big, asgS_if, nl_un, nl_val, nl_own])
          refine ⟨[.lock ds, .val x, .val y, s3, s4, .un, .un, .un], [.lock ds, .val x, .val y, .own (marks x y), .own (near x y), .un, .un, .un], by simp [evSs, evS, evE, evEs, evB, evC, evO, evP, evI, callD, argSl, argSls, bors, wb, frz, frzs, sees, R.see, lockS, unlockS, asgR, retR, setD, asgT, unlockO, backA, endF, nIf, nIfs, isAnd, truD, RD.r, binD, cmpD, biD, ixD, Mn.Loc, keyD, meD, recv, gtD, apD, ↓evS_fr, ↓evE_lc, ↓evE_srt, eq_ss, eq_ii, eq_is, eq_si, ok_b, ok_t, bt, tb, in_b, in_t, in_i, gd0, gd1, gd2, gd3, is_NoneType_int, is_NoneType_bool, is_NoneType_str, is_NoneType_list, is_NoneType_tuple, is_bool_int, is_bool_bool, is_bool_str, is_bool_list, is_bool_tuple, is_int_int, is_int_bool, is_int_str, is_int_list, is_int_tuple, is_str_int, is_str_bool, is_str_str, is_str_list, is_str_tuple, is_list_int, is_list_bool, is_list_str, is_list_list, is_list_tuple, is_tuple_int, is_tuple_bool, is_tuple_str, is_tuple_list, is_tuple_tuple, is_dict_int, is_dict_bool, is_dict_str, is_dict_list, is_dict_tuple, isiDs, L2.atI, L2.ixN, big, asgS_if, nl_un, nl_val, nl_own, n2], ?_, _, _, _, rfl, rfl, rfl, rfl⟩
          subst hb
          simp [evSs, evS, evE, evEs, evB, evC, evO, evP, evI, callD, argSl, argSls, bors, wb, frz, frzs, sees, R.see, lockS, unlockS, asgR, retR, setD, asgT, unlockO, backA, endF, nIf, nIfs, isAnd, truD, RD.r, binD, cmpD, biD, ixD, Mn.Loc, keyD, meD, recv, gtD, apD, ↓evS_fr, ↓evE_lc, ↓evE_srt, eq_ss, eq_ii, eq_is, eq_si, ok_b, ok_t, bt, tb, in_b, in_t, in_i, gd0, gd1, gd2, gd3, is_NoneType_int, is_NoneType_bool, is_NoneType_str, is_NoneType_list, is_NoneType_tuple, is_bool_int, is_bool_bool, is_bool_str, is_bool_list, is_bool_tuple, is_int_int, is_int_bool, is_int_str, is_int_list, is_int_tuple, is_str_int, is_str_bool, is_str_str, is_str_list, is_str_tuple, is_list_int, is_list_bool, is_list_str, is_list_list, is_list_tuple, is_tuple_int, is_tuple_bool, is_tuple_str, is_tuple_list, is_tuple_tuple, is_dict_int, is_dict_bool, is_dict_str, is_dict_list, is_dict_tuple, isiDs, L2.atI, L2.ixN, big, asgS_if, nl_un, nl_val, nl_own, lpS, at_least k hx.th hy.th, number (k+3) hx.th, number (k+3) hy.th, shd_bl, so_bl, n3, n4]
          rw [lc_to isI id (marks x y) .un rfl (by simp [evSs, evS, evE, evEs, evB, evC, evO, evP, evI, callD, argSl, argSls, bors, wb, frz, frzs, sees, R.see, lockS, unlockS, asgR, retR, setD, asgT, unlockO, backA, endF, nIf, nIfs, isAnd, truD, RD.r, binD, cmpD, biD, ixD, Mn.Loc, keyD, meD, recv, gtD, apD, ↓evS_fr, ↓evE_lc, ↓evE_srt, eq_ss, eq_ii, eq_is, eq_si, ok_b, ok_t, bt, tb, in_b, in_t, in_i, gd0, gd1, gd2, gd3, is_NoneType_int, is_NoneType_bool, is_NoneType_str, is_NoneType_list, is_NoneType_tuple, is_bool_int, is_bool_bool, is_bool_str, is_bool_list, is_bool_tuple, is_int_int, is_int_bool, is_int_str, is_int_list, is_int_tuple, is_str_int, is_str_bool, is_str_str, is_str_list, is_str_tuple, is_list_int, is_list_bool, is_list_str, is_list_list, is_list_tuple, is_tuple_int, is_tuple_bool, is_tuple_str, is_tuple_list, is_tuple_tuple, is_dict_int, is_dict_bool, is_dict_str, is_dict_list, is_dict_tuple, isiDs, L2.atI, L2.ixN, big, asgS_if, nl_un, nl_val, nl_own, marks]) (fun d hd => by
              have : Th d := by simp [evSs, evS, evE, evEs, evB, evC, evO, evP, evI, callD, argSl, argSls, bors, wb, frz, frzs, sees, R.see, lockS, unlockS, asgR, retR, setD, asgT, unlockO, backA, endF, nIf, nIfs, isAnd, truD, RD.r, binD, cmpD, biD, ixD, Mn.Loc, keyD, meD, recv, gtD, apD, ↓evS_fr, ↓evE_lc, ↓evE_srt, eq_ss, eq_ii, eq_is, eq_si, ok_b, ok_t, bt, tb, in_b, in_t, in_i, gd0, gd1, gd2, gd3, is_NoneType_int, is_NoneType_bool, is_NoneType_str, is_NoneType_list, is_NoneType_tuple, is_bool_int, is_bool_bool, is_bool_str, is_bool_list, is_bool_tuple, is_int_int, is_int_bool, is_int_str, is_int_list, is_int_tuple, is_str_int, is_str_bool, is_str_str, is_str_list, is_str_tuple, is_list_int, is_list_bool, is_list_str, is_list_list, is_list_tuple, is_tuple_int, is_tuple_bool, is_tuple_str, is_tuple_list, is_tuple_tuple, is_dict_int, is_dict_bool, is_dict_str, is_dict_list, is_dict_tuple, isiDs, L2.atI, L2.ixN, big, asgS_if, nl_un, nl_val, nl_own] at hd; rcases hd with rfl | rfl <;> first | exact hx.th | exact hy.th
              simp [evSs, evS, evE, evEs, evB, evC, evO, evP, evI, callD, argSl, argSls, bors, wb, frz, frzs, sees, R.see, lockS, unlockS, asgR, retR, setD, asgT, unlockO, backA, endF, nIf, nIfs, isAnd, truD, RD.r, binD, cmpD, biD, ixD, Mn.Loc, keyD, meD, recv, gtD, apD, ↓evS_fr, ↓evE_lc, ↓evE_srt, eq_ss, eq_ii, eq_is, eq_si, ok_b, ok_t, bt, tb, in_b, in_t, in_i, gd0, gd1, gd2, gd3, is_NoneType_int, is_NoneType_bool, is_NoneType_str, is_NoneType_list, is_NoneType_tuple, is_bool_int, is_bool_bool, is_bool_str, is_bool_list, is_bool_tuple, is_int_int, is_int_bool, is_int_str, is_int_list, is_int_tuple, is_str_int, is_str_bool, is_str_str, is_str_list, is_str_tuple, is_list_int, is_list_bool, is_list_str, is_list_list, is_list_tuple, is_tuple_int, is_tuple_bool, is_tuple_str, is_tuple_list, is_tuple_tuple, is_dict_int, is_dict_bool, is_dict_str, is_dict_list, is_dict_tuple, isiDs, L2.atI, L2.ixN, big, asgS_if, nl_un, nl_val, nl_own, lpC, th_in this]) (fun d hd _ => by simp [evSs, evS, evE, evEs, evB, evC, evO, evP, evI, callD, argSl, argSls, bors, wb, frz, frzs, sees, R.see, lockS, unlockS, asgR, retR, setD, asgT, unlockO, backA, endF, nIf, nIfs, isAnd, truD, RD.r, binD, cmpD, biD, ixD, Mn.Loc, keyD, meD, recv, gtD, apD, ↓evS_fr, ↓evE_lc, ↓evE_srt, eq_ss, eq_ii, eq_is, eq_si, ok_b, ok_t, bt, tb, in_b, in_t, in_i, gd0, gd1, gd2, gd3, is_NoneType_int, is_NoneType_bool, is_NoneType_str, is_NoneType_list, is_NoneType_tuple, is_bool_int, is_bool_bool, is_bool_str, is_bool_list, is_bool_tuple, is_int_int, is_int_bool, is_int_str, is_int_list, is_int_tuple, is_str_int, is_str_bool, is_str_str, is_str_list, is_str_tuple, is_list_int, is_list_bool, is_list_str, is_list_list, is_list_tuple, is_tuple_int, is_tuple_bool, is_tuple_str, is_tuple_list, is_tuple_tuple, is_dict_int, is_dict_bool, is_dict_str, is_dict_list, is_dict_tuple, isiDs, L2.atI, L2.ixN, big, asgS_if, nl_un, nl_val, nl_own, lpE]) (by simp [evSs, evS, evE, evEs, evB, evC, evO, evP, evI, callD, argSl, argSls, bors, wb, frz, frzs, sees, R.see, lockS, unlockS, asgR, retR, setD, asgT, unlockO, backA, endF, nIf, nIfs, isAnd, truD, RD.r, binD, cmpD, biD, ixD, Mn.Loc, keyD, meD, recv, gtD, apD, ↓evS_fr, ↓evE_lc, ↓evE_srt, eq_ss, eq_ii, eq_is, eq_si, ok_b, ok_t, bt, tb, in_b, in_t, in_i, gd0, gd1, gd2, gd3, is_NoneType_int, is_NoneType_bool, is_NoneType_str, is_NoneType_list, is_NoneType_tuple, is_bool_int, is_bool_bool, is_bool_str, is_bool_list, is_bool_tuple, is_int_int, is_int_bool, is_int_str, is_int_list, is_int_tuple, is_str_int, is_str_bool, is_str_str, is_str_list, is_str_tuple, is_list_int, is_list_bool, is_list_str, is_list_list, is_list_tuple, is_tuple_int, is_tuple_bool, is_tuple_str, is_tuple_list, is_tuple_tuple, is_dict_int, is_dict_bool, is_dict_str, is_dict_list, is_dict_tuple, isiDs, L2.atI, L2.ixN, big, asgS_if, nl_un, nl_val, nl_own])]
          simp [evSs, evS, evE, evEs, evB, evC, evO, evP, evI, callD, argSl, argSls, bors, wb, frz, frzs, sees, R.see, lockS, unlockS, asgR, retR, setD, asgT, unlockO, backA, endF, nIf, nIfs, isAnd, truD, RD.r, binD, cmpD, biD, ixD, Mn.Loc, keyD, meD, recv, gtD, apD, ↓evS_fr, ↓evE_lc, ↓evE_srt, eq_ss, eq_ii, eq_is, eq_si, ok_b, ok_t, bt, tb, in_b, in_t, in_i, gd0, gd1, gd2, gd3, is_NoneType_int, is_NoneType_bool, is_NoneType_str, is_NoneType_list, is_NoneType_tuple, is_bool_int, is_bool_bool, is_bool_str, is_bool_list, is_bool_tuple, is_int_int, is_int_bool, is_int_str, is_int_list, is_int_tuple, is_str_int, is_str_bool, is_str_str, is_str_list, is_str_tuple, is_list_int, is_list_bool, is_list_str, is_list_list, is_list_tuple, is_tuple_int, is_tuple_bool, is_tuple_str, is_tuple_list, is_tuple_tuple, is_dict_int, is_dict_bool, is_dict_str, is_dict_list, is_dict_tuple, isiDs, L2.atI, L2.ixN, big, asgS_if, nl_un, nl_val, nl_own, n3, n4]
          rw [lc_map (fun d => .int (num d + 1)) ((marks x y).map fun d => .int (num d + 1)) .un rfl rfl (fun d hd => by simp [evSs, evS, evE, evEs, evB, evC, evO, evP, evI, callD, argSl, argSls, bors, wb, frz, frzs, sees, R.see, lockS, unlockS, asgR, retR, setD, asgT, unlockO, backA, endF, nIf, nIfs, isAnd, truD, RD.r, binD, cmpD, biD, ixD, Mn.Loc, keyD, meD, recv, gtD, apD, ↓evS_fr, ↓evE_lc, ↓evE_srt, eq_ss, eq_ii, eq_is, eq_si, ok_b, ok_t, bt, tb, in_b, in_t, in_i, gd0, gd1, gd2, gd3, is_NoneType_int, is_NoneType_bool, is_NoneType_str, is_NoneType_list, is_NoneType_tuple, is_bool_int, is_bool_bool, is_bool_str, is_bool_list, is_bool_tuple, is_int_int, is_int_bool, is_int_str, is_int_list, is_int_tuple, is_str_int, is_str_bool, is_str_str, is_str_list, is_str_tuple, is_list_int, is_list_bool, is_list_str, is_list_list, is_list_tuple, is_tuple_int, is_tuple_bool, is_tuple_str, is_tuple_list, is_tuple_tuple, is_dict_int, is_dict_bool, is_dict_str, is_dict_list, is_dict_tuple, isiDs, L2.atI, L2.ixN, big, asgS_if, nl_un, nl_val, nl_own, lpC]) (fun d hd => by
              obtain ⟨i, rfl, _⟩ := near_th hx hy d (by simp only [near, List.mem_append]; exact .inl (.inl hd))
              simp [evSs, evS, evE, evEs, evB, evC, evO, evP, evI, callD, argSl, argSls, bors, wb, frz, frzs, sees, R.see, lockS, unlockS, asgR, retR, setD, asgT, unlockO, backA, endF, nIf, nIfs, isAnd, truD, RD.r, binD, cmpD, biD, ixD, Mn.Loc, keyD, meD, recv, gtD, apD, ↓evS_fr, ↓evE_lc, ↓evE_srt, eq_ss, eq_ii, eq_is, eq_si, ok_b, ok_t, bt, tb, in_b, in_t, in_i, gd0, gd1, gd2, gd3, is_NoneType_int, is_NoneType_bool, is_NoneType_str, is_NoneType_list, is_NoneType_tuple, is_bool_int, is_bool_bool, is_bool_str, is_bool_list, is_bool_tuple, is_int_int, is_int_bool, is_int_str, is_int_list, is_int_tuple, is_str_int, is_str_bool, is_str_str, is_str_list, is_str_tuple, is_list_int, is_list_bool, is_list_str, is_list_list, is_list_tuple, is_tuple_int, is_tuple_bool, is_tuple_str, is_tuple_list, is_tuple_tuple, is_dict_int, is_dict_bool, is_dict_str, is_dict_list, is_dict_tuple, isiDs, L2.atI, L2.ixN, big, asgS_if, nl_un, nl_val, nl_own, lpE, num]) (by have := ml x y; simp [evSs, evS, evE, evEs, evB, evC, evO, evP, evI, callD, argSl, argSls, bors, wb, frz, frzs, sees, R.see, lockS, unlockS, asgR, retR, setD, asgT, unlockO, backA, endF, nIf, nIfs, isAnd, truD, RD.r, binD, cmpD, biD, ixD, Mn.Loc, keyD, meD, recv, gtD, apD, ↓evS_fr, ↓evE_lc, ↓evE_srt, eq_ss, eq_ii, eq_is, eq_si, ok_b, ok_t, bt, tb, in_b, in_t, in_i, gd0, gd1, gd2, gd3, is_NoneType_int, is_NoneType_bool, is_NoneType_str, is_NoneType_list, is_NoneType_tuple, is_bool_int, is_bool_bool, is_bool_str, is_bool_list, is_bool_tuple, is_int_int, is_int_bool, is_int_str, is_int_list, is_int_tuple, is_str_int, is_str_bool, is_str_str, is_str_list, is_str_tuple, is_list_int, is_list_bool, is_list_str, is_list_list, is_list_tuple, is_tuple_int, is_tuple_bool, is_tuple_str, is_tuple_list, is_tuple_tuple, is_dict_int, is_dict_bool, is_dict_str, is_dict_list, is_dict_tuple, isiDs, L2.atI, L2.ixN, big, asgS_if, nl_un, nl_val, nl_own]; omega)]
          have c1 : (marks x y).length + (marks x y).length ≤ 1000000 := by have := ml x y; omega
          have c2 : (marks x y).length + (marks x y).length + 1 ≤ 1000000 := by have := ml x y; omega
          simp [evSs, evS, evE, evEs, evB, evC, evO, evP, evI, callD, argSl, argSls, bors, wb, frz, frzs, sees, R.see, lockS, unlockS, asgR, retR, setD, asgT, unlockO, backA, endF, nIf, nIfs, isAnd, truD, RD.r, binD, cmpD, biD, ixD, Mn.Loc, keyD, meD, recv, gtD, apD, ↓evS_fr, ↓evE_lc, ↓evE_srt, eq_ss, eq_ii, eq_is, eq_si, ok_b, ok_t, bt, tb, in_b, in_t, in_i, gd0, gd1, gd2, gd3, is_NoneType_int, is_NoneType_bool, is_NoneType_str, is_NoneType_list, is_NoneType_tuple, is_bool_int, is_bool_bool, is_bool_str, is_bool_list, is_bool_tuple, is_int_int, is_int_bool, is_int_str, is_int_list, is_int_tuple, is_str_int, is_str_bool, is_str_str, is_str_list, is_str_tuple, is_list_int, is_list_bool, is_list_str, is_list_list, is_list_tuple, is_tuple_int, is_tuple_bool, is_tuple_str, is_tuple_list, is_tuple_tuple, is_dict_int, is_dict_bool, is_dict_str, is_dict_list, is_dict_tuple, isiDs, L2.atI, L2.ixN, big, asgS_if, nl_un, nl_val, nl_own, n3, n4, c1, c2]
          simp only [← List.append_assoc]
          rw [show marks x y ++ (marks x y).map (fun d => D.int (num d + 1)) ++ [D.int 0] = near x y from rfl]
          rw [lc_map (fun d => .bl (decide (num d ≤ num x) == decide (num d ≤ num y))) ((near x y).map fun d => .bl (decide (num d ≤ num x) == decide (num d ≤ num y))) .un rfl rfl (fun d hd => by simp [evSs, evS, evE, evEs, evB, evC, evO, evP, evI, callD, argSl, argSls, bors, wb, frz, frzs, sees, R.see, lockS, unlockS, asgR, retR, setD, asgT, unlockO, backA, endF, nIf, nIfs, isAnd, truD, RD.r, binD, cmpD, biD, ixD, Mn.Loc, keyD, meD, recv, gtD, apD, ↓evS_fr, ↓evE_lc, ↓evE_srt, eq_ss, eq_ii, eq_is, eq_si, ok_b, ok_t, bt, tb, in_b, in_t, in_i, gd0, gd1, gd2, gd3, is_NoneType_int, is_NoneType_bool, is_NoneType_str, is_NoneType_list, is_NoneType_tuple, is_bool_int, is_bool_bool, is_bool_str, is_bool_list, is_bool_tuple, is_int_int, is_int_bool, is_int_str, is_int_list, is_int_tuple, is_str_int, is_str_bool, is_str_str, is_str_list, is_str_tuple, is_list_int, is_list_bool, is_list_str, is_list_list, is_list_tuple, is_tuple_int, is_tuple_bool, is_tuple_str, is_tuple_list, is_tuple_tuple, is_dict_int, is_dict_bool, is_dict_str, is_dict_list, is_dict_tuple, isiDs, L2.atI, L2.ixN, big, asgS_if, nl_un, nl_val, nl_own, lpC]) (fun d hd => by
              obtain ⟨i, rfl, hi⟩ := near_th hx hy d hd
              simp [evSs, evS, evE, evEs, evB, evC, evO, evP, evI, callD, argSl, argSls, bors, wb, frz, frzs, sees, R.see, lockS, unlockS, asgR, retR, setD, asgT, unlockO, backA, endF, nIf, nIfs, isAnd, truD, RD.r, binD, cmpD, biD, ixD, Mn.Loc, keyD, meD, recv, gtD, apD, ↓evS_fr, ↓evE_lc, ↓evE_srt, eq_ss, eq_ii, eq_is, eq_si, ok_b, ok_t, bt, tb, in_b, in_t, in_i, gd0, gd1, gd2, gd3, is_NoneType_int, is_NoneType_bool, is_NoneType_str, is_NoneType_list, is_NoneType_tuple, is_bool_int, is_bool_bool, is_bool_str, is_bool_list, is_bool_tuple, is_int_int, is_int_bool, is_int_str, is_int_list, is_int_tuple, is_str_int, is_str_bool, is_str_str, is_str_list, is_str_tuple, is_list_int, is_list_bool, is_list_str, is_list_list, is_list_tuple, is_tuple_int, is_tuple_bool, is_tuple_str, is_tuple_list, is_tuple_tuple, is_dict_int, is_dict_bool, is_dict_str, is_dict_list, is_dict_tuple, isiDs, L2.atI, L2.ixN, big, asgS_if, nl_un, nl_val, nl_own, lpE, at_lev k hx.th hi, at_lev k hy.th hi, eq_lev]
              rfl) (by have := nl x y; omega)]
          simp [evSs, evS, evE, evEs, evB, evC, evO, evP, evI, callD, argSl, argSls, bors, wb, frz, frzs, sees, R.see, lockS, unlockS, asgR, retR, setD, asgT, unlockO, backA, endF, nIf, nIfs, isAnd, truD, RD.r, binD, cmpD, biD, ixD, Mn.Loc, keyD, meD, recv, gtD, apD, ↓evS_fr, ↓evE_lc, ↓evE_srt, eq_ss, eq_ii, eq_is, eq_si, ok_b, ok_t, bt, tb, in_b, in_t, in_i, gd0, gd1, gd2, gd3, is_NoneType_int, is_NoneType_bool, is_NoneType_str, is_NoneType_list, is_NoneType_tuple, is_bool_int, is_bool_bool, is_bool_str, is_bool_list, is_bool_tuple, is_int_int, is_int_bool, is_int_str, is_int_list, is_int_tuple, is_str_int, is_str_bool, is_str_str, is_str_list, is_str_tuple, is_list_int, is_list_bool, is_list_str, is_list_list, is_list_tuple, is_tuple_int, is_tuple_bool, is_tuple_str, is_tuple_list, is_tuple_tuple, is_dict_int, is_dict_bool, is_dict_str, is_dict_list, is_dict_tuple, isiDs, L2.atI, L2.ixN, big, asgS_if, nl_un, nl_val, nl_own, asBls_m, th_eq hx.th hy.th, near_all hx hy, eq_bb]) ds [] [.lock ds, .val x, s2, s3, s4, .un, .un, .un] rfl ⟨_, _, _, rfl, n2, n3, n4⟩
      subst q1
      rw [e]
      simp [evSs, evS, evE, evEs, evB, evC, evO, evP, evI, callD, argSl, argSls, bors, wb, frz, frzs, sees, R.see, lockS, unlockS, asgR, retR, setD, asgT, unlockO, backA, endF, nIf, nIfs, isAnd, truD, RD.r, binD, cmpD, biD, ixD, Mn.Loc, keyD, meD, recv, gtD, apD, ↓evS_fr, ↓evE_lc, ↓evE_srt, eq_ss, eq_ii, eq_is, eq_si, ok_b, ok_t, bt, tb, in_b, in_t, in_i, gd0, gd1, gd2, gd3, is_NoneType_int, is_NoneType_bool, is_NoneType_str, is_NoneType_list, is_NoneType_tuple, is_bool_int, is_bool_bool, is_bool_str, is_bool_list, is_bool_tuple, is_int_int, is_int_bool, is_int_str, is_int_list, is_int_tuple, is_str_int, is_str_bool, is_str_str, is_str_list, is_str_tuple, is_list_int, is_list_bool, is_list_str, is_list_list, is_list_tuple, is_tuple_int, is_tuple_bool, is_tuple_str, is_tuple_list, is_tuple_tuple, is_dict_int, is_dict_bool, is_dict_str, is_dict_list, is_dict_tuple, isiDs, L2.atI, L2.ixN, big, asgS_if, nl_un, nl_val, nl_own]
      exact ⟨_, _, _, _, ⟨rfl, rfl, rfl, rfl⟩, rfl, m2, m3, m4⟩) ds [] [.lock ds, .un, .un, .un, .un, .un, .un, .un] rfl ⟨_, _, _, _, rfl, rfl, rfl, rfl, rfl⟩
  subst q1
  rw [e]
  simp [evSs, evS, evE, evEs, evB, evC, evO, evP, evI, callD, argSl, argSls, bors, wb, frz, frzs, sees, R.see, lockS, unlockS, asgR, retR, setD, asgT, unlockO, backA, endF, nIf, nIfs, isAnd, truD, RD.r, binD, cmpD, biD, ixD, Mn.Loc, keyD, meD, recv, gtD, apD, ↓evS_fr, ↓evE_lc, ↓evE_srt, eq_ss, eq_ii, eq_is, eq_si, ok_b, ok_t, bt, tb, in_b, in_t, in_i, gd0, gd1, gd2, gd3, is_NoneType_int, is_NoneType_bool, is_NoneType_str, is_NoneType_list, is_NoneType_tuple, is_bool_int, is_bool_bool, is_bool_str, is_bool_list, is_bool_tuple, is_int_int, is_int_bool, is_int_str, is_int_list, is_int_tuple, is_str_int, is_str_bool, is_str_str, is_str_list, is_str_tuple, is_list_int, is_list_bool, is_list_str, is_list_list, is_list_tuple, is_tuple_int, is_tuple_bool, is_tuple_str, is_tuple_list, is_tuple_tuple, is_dict_int, is_dict_bool, is_dict_str, is_dict_list, is_dict_tuple, isiDs, L2.atI, L2.ixN, big, asgS_if, nl_un, nl_val, nl_own]
end K11

-- P11j
set_option Elab.async false
set_option linter.all false
set_option maxRecDepth 100000
set_option maxHeartbeats 4000000
set_option autoImplicit false
namespace K11
open PySem Mn
theorem insI_mem (x z : Int) : ∀ l, z ∈ insI x l → z = x ∨ z ∈ l
  | [], h => by simpa [insI] using h
  | y :: l, h => by
    unfold insI at h
    split at h
    · simpa using h
    · split at h
      · exact .inr h
      · rcases List.mem_cons.mp h with rfl | h
        · exact .inr (by simp [evSs, evS, evE, evEs, evB, evC, evO, evP, evI, callD, argSl, argSls, bors, wb, frz, frzs, sees, R.see, lockS, unlockS, asgR, retR, setD, asgT, unlockO, backA, endF, nIf, nIfs, isAnd, truD, RD.r, binD, cmpD, biD, ixD, Mn.Loc, keyD, meD, recv, gtD, apD, ↓evS_fr, ↓evE_lc, ↓evE_srt, eq_ss, eq_ii, eq_is, eq_si, ok_b, ok_t, bt, tb, in_b, in_t, in_i, gd0, gd1, gd2, gd3, is_NoneType_int, is_NoneType_bool, is_NoneType_str, is_NoneType_list, is_NoneType_tuple, is_bool_int, is_bool_bool, is_bool_str, is_bool_list, is_bool_tuple, is_int_int, is_int_bool, is_int_str, is_int_list, is_int_tuple, is_str_int, is_str_bool, is_str_str, is_str_list, is_str_tuple, is_list_int, is_list_bool, is_list_str, is_list_list, is_list_tuple, is_tuple_int, is_tuple_bool, is_tuple_str, is_tuple_list, is_tuple_tuple, is_dict_int, is_dict_bool, is_dict_str, is_dict_list, is_dict_tuple, isiDs, L2.atI, L2.ixN, big, asgS_if, nl_un, nl_val, nl_own])
        · rcases insI_mem x z l h with h | h
          · exact .inl h
          · exact .inr (by simp [evSs, evS, evE, evEs, evB, evC, evO, evP, evI, callD, argSl, argSls, bors, wb, frz, frzs, sees, R.see, lockS, unlockS, asgR, retR, setD, asgT, unlockO, backA, endF, nIf, nIfs, isAnd, truD, RD.r, binD, cmpD, biD, ixD, Mn.Loc, keyD, meD, recv, gtD, apD, ↓evS_fr, ↓evE_lc, ↓evE_srt, eq_ss, eq_ii, eq_is, eq_si, ok_b, ok_t, bt, tb, in_b, in_t, in_i, gd0, gd1, gd2, gd3, is_NoneType_int, is_NoneType_bool, is_NoneType_str, is_NoneType_list, is_NoneType_tuple, is_bool_int, is_bool_bool, is_bool_str, is_bool_list, is_bool_tuple, is_int_int, is_int_bool, is_int_str, is_int_list, is_int_tuple, is_str_int, is_str_bool, is_str_str, is_str_list, is_str_tuple, is_list_int, is_list_bool, is_list_str, is_list_list, is_list_tuple, is_tuple_int, is_tuple_bool, is_tuple_str, is_tuple_list, is_tuple_tuple, is_dict_int, is_dict_bool, is_dict_str, is_dict_list, is_dict_tuple, isiDs, L2.atI, L2.ixN, big, asgS_if, nl_un, nl_val, nl_own, h])
theorem insI_len (x : Int) : ∀ l, (insI x l).length ≤ l.length + 1
  | [] => by simp [evSs, evS, evE, evEs, evB, evC, evO, evP, evI, callD, argSl, argSls, bors, wb, frz, frzs, sees, R.see, lockS, unlockS, asgR, retR, setD, asgT, unlockO, backA, endF, nIf, nIfs, isAnd, truD, RD.r, binD, cmpD, biD, ixD, Mn.Loc, keyD, meD, recv, gtD, apD, ↓evS_fr, ↓evE_lc, ↓evE_srt, eq_ss, eq_ii, eq_is, eq_si, ok_b, ok_t, bt, tb, in_b, in_t, in_i, gd0, gd1, gd2, gd3, is_NoneType_int, is_NoneType_bool, is_NoneType_str, is_NoneType_list, is_NoneType_tuple, is_bool_int, is_bool_bool, is_bool_str, is_bool_list, is_bool_tuple, is_int_int, is_int_bool, is_int_str, is_int_list, is_int_tuple, is_str_int, is_str_bool, is_str_str, is_str_list, is_str_tuple, is_list_int, is_list_bool, is_list_str, is_list_list, is_list_tuple, is_tuple_int, is_tuple_bool, is_tuple_str, is_tuple_list, is_tuple_tuple, is_dict_int, is_dict_bool, is_dict_str, is_dict_list, is_dict_tuple, isiDs, L2.atI, L2.ixN, big, asgS_if, nl_un, nl_val, nl_own, insI]
  | y :: l => by
    have := insI_len x l
    unfold insI
    split
    · simp [evSs, evS, evE, evEs, evB, evC, evO, evP, evI, callD, argSl, argSls, bors, wb, frz, frzs, sees, R.see, lockS, unlockS, asgR, retR, setD, asgT, unlockO, backA, endF, nIf, nIfs, isAnd, truD, RD.r, binD, cmpD, biD, ixD, Mn.Loc, keyD, meD, recv, gtD, apD, ↓evS_fr, ↓evE_lc, ↓evE_srt, eq_ss, eq_ii, eq_is, eq_si, ok_b, ok_t, bt, tb, in_b, in_t, in_i, gd0, gd1, gd2, gd3, is_NoneType_int, is_NoneType_bool, is_NoneType_str, is_NoneType_list, is_NoneType_tuple, is_bool_int, is_bool_bool, is_bool_str, is_bool_list, is_bool_tuple, is_int_int, is_int_bool, is_int_str, is_int_list, is_int_tuple, is_str_int, is_str_bool, is_str_str, is_str_list, is_str_tuple, is_list_int, is_list_bool, is_list_str, is_list_list, is_list_tuple, is_tuple_int, is_tuple_bool, is_tuple_str, is_tuple_list, is_tuple_tuple, is_dict_int, is_dict_bool, is_dict_str, is_dict_list, is_dict_tuple, isiDs, L2.atI, L2.ixN, big, asgS_if, nl_un, nl_val, nl_own]
    · split
      · simp [evSs, evS, evE, evEs, evB, evC, evO, evP, evI, callD, argSl, argSls, bors, wb, frz, frzs, sees, R.see, lockS, unlockS, asgR, retR, setD, asgT, unlockO, backA, endF, nIf, nIfs, isAnd, truD, RD.r, binD, cmpD, biD, ixD, Mn.Loc, keyD, meD, recv, gtD, apD, ↓evS_fr, ↓evE_lc, ↓evE_srt, eq_ss, eq_ii, eq_is, eq_si, ok_b, ok_t, bt, tb, in_b, in_t, in_i, gd0, gd1, gd2, gd3, is_NoneType_int, is_NoneType_bool, is_NoneType_str, is_NoneType_list, is_NoneType_tuple, is_bool_int, is_bool_bool, is_bool_str, is_bool_list, is_bool_tuple, is_int_int, is_int_bool, is_int_str, is_int_list, is_int_tuple, is_str_int, is_str_bool, is_str_str, is_str_list, is_str_tuple, is_list_int, is_list_bool, is_list_str, is_list_list, is_list_tuple, is_tuple_int, is_tuple_bool, is_tuple_str, is_tuple_list, is_tuple_tuple, is_dict_int, is_dict_bool, is_dict_str, is_dict_list, is_dict_tuple, isiDs, L2.atI, L2.ixN, big, asgS_if, nl_un, nl_val, nl_own]
      · simp [evSs, evS, evE, evEs, evB, evC, evO, evP, evI, callD, argSl, argSls, bors, wb, frz, frzs, sees, R.see, lockS, unlockS, asgR, retR, setD, asgT, unlockO, backA, endF, nIf, nIfs, isAnd, truD, RD.r, binD, cmpD, biD, ixD, Mn.Loc, keyD, meD, recv, gtD, apD, ↓evS_fr, ↓evE_lc, ↓evE_srt, eq_ss, eq_ii, eq_is, eq_si, ok_b, ok_t, bt, tb, in_b, in_t, in_i, gd0, gd1, gd2, gd3, is_NoneType_int, is_NoneType_bool, is_NoneType_str, is_NoneType_list, is_NoneType_tuple, is_bool_int, is_bool_bool, is_bool_str, is_bool_list, is_bool_tuple, is_int_int, is_int_bool, is_int_str, is_int_list, is_int_tuple, is_str_int, is_str_bool, is_str_str, is_str_list, is_str_tuple, is_list_int, is_list_bool, is_list_str, is_list_list, is_list_tuple, is_tuple_int, is_tuple_bool, is_tuple_str, is_tuple_list, is_tuple_tuple, is_dict_int, is_dict_bool, is_dict_str, is_dict_list, is_dict_tuple, isiDs, L2.atI, L2.ixN, big, asgS_if, nl_un, nl_val, nl_own]; omega
theorem srtI_aux : ∀ (xs acc : List Int), (∀ z ∈ xs.foldl (fun acc x => insI x acc) acc, z ∈ xs ∨ z ∈ acc) ∧ (xs.foldl (fun acc x => insI x acc) acc).length ≤ xs.length + acc.length
  | [], acc => ⟨fun z h => .inr h, by simp [evSs, evS, evE, evEs, evB, evC, evO, evP, evI, callD, argSl, argSls, bors, wb, frz, frzs, sees, R.see, lockS, unlockS, asgR, retR, setD, asgT, unlockO, backA, endF, nIf, nIfs, isAnd, truD, RD.r, binD, cmpD, biD, ixD, Mn.Loc, keyD, meD, recv, gtD, apD, ↓evS_fr, ↓evE_lc, ↓evE_srt, eq_ss, eq_ii, eq_is, eq_si, ok_b, ok_t, bt, tb, in_b, in_t, in_i, gd0, gd1, gd2, gd3, is_NoneType_int, is_NoneType_bool, is_NoneType_str, is_NoneType_list, is_NoneType_tuple, is_bool_int, is_bool_bool, is_bool_str, is_bool_list, is_bool_tuple, is_int_int, is_int_bool, is_int_str, is_int_list, is_int_tuple, is_str_int, is_str_bool, is_str_str, is_str_list, is_str_tuple, is_list_int, is_list_bool, is_list_str, is_list_list, is_list_tuple, is_tuple_int, is_tuple_bool, is_tuple_str, is_tuple_list, is_tuple_tuple, is_dict_int, is_dict_bool, is_dict_str, is_dict_list, is_dict_tuple, isiDs, L2.atI, L2.ixN, big, asgS_if, nl_un, nl_val, nl_own]⟩
  | x :: xs, acc => by
    obtain ⟨h1, h2⟩ := srtI_aux xs (insI x acc)
    refine ⟨fun z hz => ?_, ?_⟩
    · rcases h1 z hz with h | h
      · exact .inl (by simp [evSs, evS, evE, evEs, evB, evC, evO, evP, evI, callD, argSl, argSls, bors, wb, frz, frzs, sees, R.see, lockS, unlockS, asgR, retR, setD, asgT, unlockO, backA, endF, nIf, nIfs, isAnd, truD, RD.r, binD, cmpD, biD, ixD, Mn.Loc, keyD, meD, recv, gtD, apD, ↓evS_fr, ↓evE_lc, ↓evE_srt, eq_ss, eq_ii, eq_is, eq_si, ok_b, ok_t, bt, tb, in_b, in_t, in_i, gd0, gd1, gd2, gd3, is_NoneType_int, is_NoneType_bool, is_NoneType_str, is_NoneType_list, is_NoneType_tuple, is_bool_int, is_bool_bool, is_bool_str, is_bool_list, is_bool_tuple, is_int_int, is_int_bool, is_int_str, is_int_list, is_int_tuple, is_str_int, is_str_bool, is_str_str, is_str_list, is_str_tuple, is_list_int, is_list_bool, is_list_str, is_list_list, is_list_tuple, is_tuple_int, is_tuple_bool, is_tuple_str, is_tuple_list, is_tuple_tuple, is_dict_int, is_dict_bool, is_dict_str, is_dict_list, is_dict_tuple, isiDs, L2.atI, L2.ixN, big, asgS_if, nl_un, nl_val, nl_own, h])
      · rcases insI_mem x z acc h with h | h
        · exact .inl (by simp [evSs, evS, evE, evEs, evB, evC, evO, evP, evI, callD, argSl, argSls, bors, wb, frz, frzs, sees, R.see, lockS, unlockS, asgR, retR, setD, asgT, unlockO, backA, endF, nIf, nIfs, isAnd, truD, RD.r, binD, cmpD, biD, ixD, Mn.Loc, keyD, meD, recv, gtD, apD, ↓evS_fr, ↓evE_lc, ↓evE_srt, eq_ss, eq_ii, eq_is, eq_si, ok_b, ok_t, bt, tb, in_b, in_t, in_i, gd0, gd1, gd2, gd3, is_NoneType_int, is_NoneType_bool, is_NoneType_str, is_NoneType_list, is_NoneType_tuple, is_bool_int, is_bool_bool, is_bool_str, is_bool_list, is_bool_tuple, is_int_int, is_int_bool, is_int_str, is_int_list, is_int_tuple, is_str_int, is_str_bool, is_str_str, is_str_list, is_str_tuple, is_list_int, is_list_bool, is_list_str, is_list_list, is_list_tuple, is_tuple_int, is_tuple_bool, is_tuple_str, is_tuple_list, is_tuple_tuple, is_dict_int, is_dict_bool, is_dict_str, is_dict_list, is_dict_tuple, isiDs, L2.atI, L2.ixN, big, asgS_if, nl_un, nl_val, nl_own, h])
        · exact .inr h
    · have := insI_len x acc
      simp only [List.foldl_cons, List.length_cons]
      omega
theorem itg_mem : ∀ (ds : List D) (i : Int), i ∈ itg ds → D.int i ∈ ds
  | [], i, h => by simp [evSs, evS, evE, evEs, evB, evC, evO, evP, evI, callD, argSl, argSls, bors, wb, frz, frzs, sees, R.see, lockS, unlockS, asgR, retR, setD, asgT, unlockO, backA, endF, nIf, nIfs, isAnd, truD, RD.r, binD, cmpD, biD, ixD, Mn.Loc, keyD, meD, recv, gtD, apD, ↓evS_fr, ↓evE_lc, ↓evE_srt, eq_ss, eq_ii, eq_is, eq_si, ok_b, ok_t, bt, tb, in_b, in_t, in_i, gd0, gd1, gd2, gd3, is_NoneType_int, is_NoneType_bool, is_NoneType_str, is_NoneType_list, is_NoneType_tuple, is_bool_int, is_bool_bool, is_bool_str, is_bool_list, is_bool_tuple, is_int_int, is_int_bool, is_int_str, is_int_list, is_int_tuple, is_str_int, is_str_bool, is_str_str, is_str_list, is_str_tuple, is_list_int, is_list_bool, is_list_str, is_list_list, is_list_tuple, is_tuple_int, is_tuple_bool, is_tuple_str, is_tuple_list, is_tuple_tuple, is_dict_int, is_dict_bool, is_dict_str, is_dict_list, is_dict_tuple, isiDs, L2.atI, L2.ixN, big, asgS_if, nl_un, nl_val, nl_own, itg] at h
  | d :: ds, i, h => by
    have := itg_mem ds i
    cases d <;> simp [evSs, evS, evE, evEs, evB, evC, evO, evP, evI, callD, argSl, argSls, bors, wb, frz, frzs, sees, R.see, lockS, unlockS, asgR, retR, setD, asgT, unlockO, backA, endF, nIf, nIfs, isAnd, truD, RD.r, binD, cmpD, biD, ixD, Mn.Loc, keyD, meD, recv, gtD, apD, ↓evS_fr, ↓evE_lc, ↓evE_srt, eq_ss, eq_ii, eq_is, eq_si, ok_b, ok_t, bt, tb, in_b, in_t, in_i, gd0, gd1, gd2, gd3, is_NoneType_int, is_NoneType_bool, is_NoneType_str, is_NoneType_list, is_NoneType_tuple, is_bool_int, is_bool_bool, is_bool_str, is_bool_list, is_bool_tuple, is_int_int, is_int_bool, is_int_str, is_int_list, is_int_tuple, is_str_int, is_str_bool, is_str_str, is_str_list, is_str_tuple, is_list_int, is_list_bool, is_list_str, is_list_list, is_list_tuple, is_tuple_int, is_tuple_bool, is_tuple_str, is_tuple_list, is_tuple_tuple, is_dict_int, is_dict_bool, is_dict_str, is_dict_list, is_dict_tuple, isiDs, L2.atI, L2.ixN, big, asgS_if, nl_un, nl_val, nl_own, itg] at h ⊢ <;> first | exact this h | skip
    rcases h with h | h
    · exact .inl h
    · exact .inr (this h)
theorem L_th {ds : List D} (h : ∀ d ∈ ds, Ts d) : ∀ d ∈ L ds, Th d := by
  intro d hd
  simp [evSs, evS, evE, evEs, evB, evC, evO, evP, evI, callD, argSl, argSls, bors, wb, frz, frzs, sees, R.see, lockS, unlockS, asgR, retR, setD, asgT, unlockO, backA, endF, nIf, nIfs, isAnd, truD, RD.r, binD, cmpD, biD, ixD, Mn.Loc, keyD, meD, recv, gtD, apD, ↓evS_fr, ↓evE_lc, ↓evE_srt, eq_ss, eq_ii, eq_is, eq_si, ok_b, ok_t, bt, tb, in_b, in_t, in_i, gd0, gd1, gd2, gd3, is_NoneType_int, is_NoneType_bool, is_NoneType_str, is_NoneType_list, is_NoneType_tuple, is_bool_int, is_bool_bool, is_bool_str, is_bool_list, is_bool_tuple, is_int_int, is_int_bool, is_int_str, is_int_list, is_int_tuple, is_str_int, is_str_bool, is_str_str, is_str_list, is_str_tuple, is_list_int, is_list_bool, is_list_str, is_list_list, is_list_tuple, is_tuple_int, is_tuple_bool, is_tuple_str, is_tuple_list, is_tuple_tuple, is_dict_int, is_dict_bool, is_dict_str, is_dict_list, is_dict_tuple, isiDs, L2.atI, L2.ixN, big, asgS_if, nl_un, nl_val, nl_own, L] at hd
  obtain ⟨i, hi, rfl⟩ := hd
  rcases (srtI_aux (itg ds) []).1 i hi with q | q
  · exact (h _ (itg_mem ds i q)).th
  · simp [evSs, evS, evE, evEs, evB, evC, evO, evP, evI, callD, argSl, argSls, bors, wb, frz, frzs, sees, R.see, lockS, unlockS, asgR, retR, setD, asgT, unlockO, backA, endF, nIf, nIfs, isAnd, truD, RD.r, binD, cmpD, biD, ixD, Mn.Loc, keyD, meD, recv, gtD, apD, ↓evS_fr, ↓evE_lc, ↓evE_srt, eq_ss, eq_ii, eq_is, eq_si, ok_b, ok_t, bt, tb, in_b, in_t, in_i, gd0, gd1, gd2, gd3, is_NoneType_int, is_NoneType_bool, is_NoneType_str, is_NoneType_list, is_NoneType_tuple, is_bool_int, is_bool_bool, is_bool_str, is_bool_list, is_bool_tuple, is_int_int, is_int_bool, is_int_str, is_int_list, is_int_tuple, is_str_int, is_str_bool, is_str_str, is_str_list, is_str_tuple, is_list_int, is_list_bool, is_list_str, is_list_list, is_list_tuple, is_tuple_int, is_tuple_bool, is_tuple_str, is_tuple_list, is_tuple_tuple, is_dict_int, is_dict_bool, is_dict_str, is_dict_list, is_dict_tuple, isiDs, L2.atI, L2.ixN, big, asgS_if, nl_un, nl_val, nl_own] at q
theorem L_len {ds : List D} : (L ds).length ≤ ds.length := by
  have h1 := (srtI_aux (itg ds) []).2
  have h2 := itg_len ds
  simp [evSs, evS, evE, evEs, evB, evC, evO, evP, evI, callD, argSl, argSls, bors, wb, frz, frzs, sees, R.see, lockS, unlockS, asgR, retR, setD, asgT, unlockO, backA, endF, nIf, nIfs, isAnd, truD, RD.r, binD, cmpD, biD, ixD, Mn.Loc, keyD, meD, recv, gtD, apD, ↓evS_fr, ↓evE_lc, ↓evE_srt, eq_ss, eq_ii, eq_is, eq_si, ok_b, ok_t, bt, tb, in_b, in_t, in_i, gd0, gd1, gd2, gd3, is_NoneType_int, is_NoneType_bool, is_NoneType_str, is_NoneType_list, is_NoneType_tuple, is_bool_int, is_bool_bool, is_bool_str, is_bool_list, is_bool_tuple, is_int_int, is_int_bool, is_int_str, is_int_list, is_int_tuple, is_str_int, is_str_bool, is_str_str, is_str_list, is_str_tuple, is_list_int, is_list_bool, is_list_str, is_list_list, is_list_tuple, is_tuple_int, is_tuple_bool, is_tuple_str, is_tuple_list, is_tuple_tuple, is_dict_int, is_dict_bool, is_dict_str, is_dict_list, is_dict_tuple, isiDs, L2.atI, L2.ixN, big, asgS_if, nl_un, nl_val, nl_own, L]
  unfold srtI
  simp [evSs, evS, evE, evEs, evB, evC, evO, evP, evI, callD, argSl, argSls, bors, wb, frz, frzs, sees, R.see, lockS, unlockS, asgR, retR, setD, asgT, unlockO, backA, endF, nIf, nIfs, isAnd, truD, RD.r, binD, cmpD, biD, ixD, Mn.Loc, keyD, meD, recv, gtD, apD, ↓evS_fr, ↓evE_lc, ↓evE_srt, eq_ss, eq_ii, eq_is, eq_si, ok_b, ok_t, bt, tb, in_b, in_t, in_i, gd0, gd1, gd2, gd3, is_NoneType_int, is_NoneType_bool, is_NoneType_str, is_NoneType_list, is_NoneType_tuple, is_bool_int, is_bool_bool, is_bool_str, is_bool_list, is_bool_tuple, is_int_int, is_int_bool, is_int_str, is_int_list, is_int_tuple, is_str_int, is_str_bool, is_str_str, is_str_list, is_str_tuple, is_list_int, is_list_bool, is_list_str, is_list_list, is_list_tuple, is_tuple_int, is_tuple_bool, is_tuple_str, is_tuple_list, is_tuple_tuple, is_dict_int, is_dict_bool, is_dict_str, is_dict_list, is_dict_tuple, isiDs, L2.atI, L2.ixN, big, asgS_if, nl_un, nl_val, nl_own] at h1
  omega
theorem shd_L {ds : List D} (h : ∀ d ∈ ds, Ts d) (l : ds.length ≤ 8) : Sh 600 1 (.lst (L ds)) := by
  have := L_len (ds := ds)
  exact (Sh.lst fun d hd => (L_th h d hd).sh).mono (by omega) (by omega)
theorem shd_ds {ds : List D} (h : ∀ d ∈ ds, Ts d) (l : ds.length ≤ 8) : Sh 600 1 (.lst ds) :=
  (Sh.lst fun d hd => (h d hd).th.sh).mono (by omega) (by omega)
def ownL (x : D) : List D := if isI x then [x, .int (num x + 1), .int (num x - 1)] else []
def rks (x : D) (z : Int) : List D := ownL x ++ [.int 0, .int (z - 20), .int 1000000000000000000000000000000000000000000000000000000000000, .int (-100000000000000000000000000000000000000000000000000000000000)]
theorem rks_th {x : D} {z : Int} (hx : Ts x) (h0 : 0 ≤ z) (h1 : z < 41) : ∀ d ∈ rks x z, ∃ i, d = .int i ∧ Th (.int i) := by
  intro d hd
  simp only [rks, List.mem_append] at hd
  rcases hd with hd | hd
  · cases hx with
    | int i a b =>
      simp [evSs, evS, evE, evEs, evB, evC, evO, evP, evI, callD, argSl, argSls, bors, wb, frz, frzs, sees, R.see, lockS, unlockS, asgR, retR, setD, asgT, unlockO, backA, endF, nIf, nIfs, isAnd, truD, RD.r, binD, cmpD, biD, ixD, Mn.Loc, keyD, meD, recv, gtD, apD, ↓evS_fr, ↓evE_lc, ↓evE_srt, eq_ss, eq_ii, eq_is, eq_si, ok_b, ok_t, bt, tb, in_b, in_t, in_i, gd0, gd1, gd2, gd3, is_NoneType_int, is_NoneType_bool, is_NoneType_str, is_NoneType_list, is_NoneType_tuple, is_bool_int, is_bool_bool, is_bool_str, is_bool_list, is_bool_tuple, is_int_int, is_int_bool, is_int_str, is_int_list, is_int_tuple, is_str_int, is_str_bool, is_str_str, is_str_list, is_str_tuple, is_list_int, is_list_bool, is_list_str, is_list_list, is_list_tuple, is_tuple_int, is_tuple_bool, is_tuple_str, is_tuple_list, is_tuple_tuple, is_dict_int, is_dict_bool, is_dict_str, is_dict_list, is_dict_tuple, isiDs, L2.atI, L2.ixN, big, asgS_if, nl_un, nl_val, nl_own, ownL, isI, num] at hd
      rcases hd with rfl | rfl | rfl <;> exact ⟨_, rfl, .of (by omega) (by omega)⟩
    | _ => simp [evSs, evS, evE, evEs, evB, evC, evO, evP, evI, callD, argSl, argSls, bors, wb, frz, frzs, sees, R.see, lockS, unlockS, asgR, retR, setD, asgT, unlockO, backA, endF, nIf, nIfs, isAnd, truD, RD.r, binD, cmpD, biD, ixD, Mn.Loc, keyD, meD, recv, gtD, apD, ↓evS_fr, ↓evE_lc, ↓evE_srt, eq_ss, eq_ii, eq_is, eq_si, ok_b, ok_t, bt, tb, in_b, in_t, in_i, gd0, gd1, gd2, gd3, is_NoneType_int, is_NoneType_bool, is_NoneType_str, is_NoneType_list, is_NoneType_tuple, is_bool_int, is_bool_bool, is_bool_str, is_bool_list, is_bool_tuple, is_int_int, is_int_bool, is_int_str, is_int_list, is_int_tuple, is_str_int, is_str_bool, is_str_str, is_str_list, is_str_tuple, is_list_int, is_list_bool, is_list_str, is_list_list, is_list_tuple, is_tuple_int, is_tuple_bool, is_tuple_str, is_tuple_list, is_tuple_tuple, is_dict_int, is_dict_bool, is_dict_str, is_dict_list, is_dict_tuple, isiDs, L2.atI, L2.ixN, big, asgS_if, nl_un, nl_val, nl_own, ownL, isI] at hd
  · simp [evSs, evS, evE, evEs, evB, evC, evO, evP, evI, callD, argSl, argSls, bors, wb, frz, frzs, sees, R.see, lockS, unlockS, asgR, retR, setD, asgT, unlockO, backA, endF, nIf, nIfs, isAnd, truD, RD.r, binD, cmpD, biD, ixD, Mn.Loc, keyD, meD, recv, gtD, apD, ↓evS_fr, ↓evE_lc, ↓evE_srt, eq_ss, eq_ii, eq_is, eq_si, ok_b, ok_t, bt, tb, in_b, in_t, in_i, gd0, gd1, gd2, gd3, is_NoneType_int, is_NoneType_bool, is_NoneType_str, is_NoneType_list, is_NoneType_tuple, is_bool_int, is_bool_bool, is_bool_str, is_bool_list, is_bool_tuple, is_int_int, is_int_bool, is_int_str, is_int_list, is_int_tuple, is_str_int, is_str_bool, is_str_str, is_str_list, is_str_tuple, is_list_int, is_list_bool, is_list_str, is_list_list, is_list_tuple, is_tuple_int, is_tuple_bool, is_tuple_str, is_tuple_list, is_tuple_tuple, is_dict_int, is_dict_bool, is_dict_str, is_dict_list, is_dict_tuple, isiDs, L2.atI, L2.ixN, big, asgS_if, nl_un, nl_val, nl_own] at hd
    rcases hd with rfl | rfl | rfl | rfl <;> exact ⟨_, rfl, .of (by omega) (by omega)⟩
theorem rks_len (x : D) (z : Int) : (ownL x).length ≤ 3 := by
  unfold ownL
  split <;> simp [evSs, evS, evE, evEs, evB, evC, evO, evP, evI, callD, argSl, argSls, bors, wb, frz, frzs, sees, R.see, lockS, unlockS, asgR, retR, setD, asgT, unlockO, backA, endF, nIf, nIfs, isAnd, truD, RD.r, binD, cmpD, biD, ixD, Mn.Loc, keyD, meD, recv, gtD, apD, ↓evS_fr, ↓evE_lc, ↓evE_srt, eq_ss, eq_ii, eq_is, eq_si, ok_b, ok_t, bt, tb, in_b, in_t, in_i, gd0, gd1, gd2, gd3, is_NoneType_int, is_NoneType_bool, is_NoneType_str, is_NoneType_list, is_NoneType_tuple, is_bool_int, is_bool_bool, is_bool_str, is_bool_list, is_bool_tuple, is_int_int, is_int_bool, is_int_str, is_int_list, is_int_tuple, is_str_int, is_str_bool, is_str_str, is_str_list, is_str_tuple, is_list_int, is_list_bool, is_list_str, is_list_list, is_list_tuple, is_tuple_int, is_tuple_bool, is_tuple_str, is_tuple_list, is_tuple_tuple, is_dict_int, is_dict_bool, is_dict_str, is_dict_list, is_dict_tuple, isiDs, L2.atI, L2.ixN, big, asgS_if, nl_un, nl_val, nl_own]
theorem inner {fb : List Sl → Option SO} {a b c : Sl} {x : D} (hfb : ∀ i s5, Th (.int i) → nlk s5 = true → fb [a, b, .val x, c, .val (.int i), s5, .un, .un] = some (.nx [a, b, .val x, c, .val (.int i), .val (lev x i), .un, .un])) : ∀ (rs : List D) (s4 s5 : Sl), (∀ d ∈ rs, ∃ i, d = .int i ∧ Th (.int i)) → nlk s4 = true → nlk s5 = true →
    ∃ s4' s5', nlk s4' = true ∧ nlk s5' = true ∧ frL (2, 8) fb 4 rs [a, b, .val x, c, s4, s5, .un, .un] = some (.nx [a, b, .val x, c, s4', s5', .un, .un])
  | [], s4, s5, _, h4, h5 => ⟨s4, s5, h4, h5, rfl⟩
  | d :: rs, s4, s5, h, h4, h5 => by
    obtain ⟨i, rfl, hi⟩ := h d (by simp [evSs, evS, evE, evEs, evB, evC, evO, evP, evI, callD, argSl, argSls, bors, wb, frz, frzs, sees, R.see, lockS, unlockS, asgR, retR, setD, asgT, unlockO, backA, endF, nIf, nIfs, isAnd, truD, RD.r, binD, cmpD, biD, ixD, Mn.Loc, keyD, meD, recv, gtD, apD, ↓evS_fr, ↓evE_lc, ↓evE_srt, eq_ss, eq_ii, eq_is, eq_si, ok_b, ok_t, bt, tb, in_b, in_t, in_i, gd0, gd1, gd2, gd3, is_NoneType_int, is_NoneType_bool, is_NoneType_str, is_NoneType_list, is_NoneType_tuple, is_bool_int, is_bool_bool, is_bool_str, is_bool_list, is_bool_tuple, is_int_int, is_int_bool, is_int_str, is_int_list, is_int_tuple, is_str_int, is_str_bool, is_str_str, is_str_list, is_str_tuple, is_list_int, is_list_bool, is_list_str, is_list_list, is_list_tuple, is_tuple_int, is_tuple_bool, is_tuple_str, is_tuple_list, is_tuple_tuple, is_dict_int, is_dict_bool, is_dict_str, is_dict_list, is_dict_tuple, isiDs, L2.atI, L2.ixN, big, asgS_if, nl_un, nl_val, nl_own])
    obtain ⟨s4', s5', m4, m5, e⟩ := inner hfb rs (.val (.int i)) (.val (lev x i)) (fun d hd => h d (by simp [evSs, evS, evE, evEs, evB, evC, evO, evP, evI, callD, argSl, argSls, bors, wb, frz, frzs, sees, R.see, lockS, unlockS, asgR, retR, setD, asgT, unlockO, backA, endF, nIf, nIfs, isAnd, truD, RD.r, binD, cmpD, biD, ixD, Mn.Loc, keyD, meD, recv, gtD, apD, ↓evS_fr, ↓evE_lc, ↓evE_srt, eq_ss, eq_ii, eq_is, eq_si, ok_b, ok_t, bt, tb, in_b, in_t, in_i, gd0, gd1, gd2, gd3, is_NoneType_int, is_NoneType_bool, is_NoneType_str, is_NoneType_list, is_NoneType_tuple, is_bool_int, is_bool_bool, is_bool_str, is_bool_list, is_bool_tuple, is_int_int, is_int_bool, is_int_str, is_int_list, is_int_tuple, is_str_int, is_str_bool, is_str_str, is_str_list, is_str_tuple, is_list_int, is_list_bool, is_list_str, is_list_list, is_list_tuple, is_tuple_int, is_tuple_bool, is_tuple_str, is_tuple_list, is_tuple_tuple, is_dict_int, is_dict_bool, is_dict_str, is_dict_list, is_dict_tuple, isiDs, L2.atI, L2.ixN, big, asgS_if, nl_un, nl_val, nl_own, hd])) rfl rfl
    refine ⟨s4', s5', m4, m5, ?_⟩
    rw [← e]
    simp [evSs, evS, evE, evEs, evB, evC, evO, evP, evI, callD, argSl, argSls, bors, wb, frz, frzs, sees, R.see, lockS, unlockS, asgR, retR, setD, asgT, unlockO, backA, endF, nIf, nIfs, isAnd, truD, RD.r, binD, cmpD, biD, ixD, Mn.Loc, keyD, meD, recv, gtD, apD, ↓evS_fr, ↓evE_lc, ↓evE_srt, eq_ss, eq_ii, eq_is, eq_si, ok_b, ok_t, bt, tb, in_b, in_t, in_i, gd0, gd1, gd2, gd3, is_NoneType_int, is_NoneType_bool, is_NoneType_str, is_NoneType_list, is_NoneType_tuple, is_bool_int, is_bool_bool, is_bool_str, is_bool_list, is_bool_tuple, is_int_int, is_int_bool, is_int_str, is_int_list, is_int_tuple, is_str_int, is_str_bool, is_str_str, is_str_list, is_str_tuple, is_list_int, is_list_bool, is_list_str, is_list_list, is_list_tuple, is_tuple_int, is_tuple_bool, is_tuple_str, is_tuple_list, is_tuple_tuple, is_dict_int, is_dict_bool, is_dict_str, is_dict_list, is_dict_tuple, isiDs, L2.atI, L2.ixN, big, asgS_if, nl_un, nl_val, nl_own, frL, h4, hfb i s5 hi h5]
theorem lev_ix (x : D) (i : Int) : [sB, sT][(if decide (i ≤ num x) = true then (1 : Int) else 0).toNat]? = some (lev x i) := by
  unfold lev
  by_cases q : i ≤ num x <;> simp [evSs, evS, evE, evEs, evB, evC, evO, evP, evI, callD, argSl, argSls, bors, wb, frz, frzs, sees, R.see, lockS, unlockS, asgR, retR, setD, asgT, unlockO, backA, endF, nIf, nIfs, isAnd, truD, RD.r, binD, cmpD, biD, ixD, Mn.Loc, keyD, meD, recv, gtD, apD, ↓evS_fr, ↓evE_lc, ↓evE_srt, eq_ss, eq_ii, eq_is, eq_si, ok_b, ok_t, bt, tb, in_b, in_t, in_i, gd0, gd1, gd2, gd3, is_NoneType_int, is_NoneType_bool, is_NoneType_str, is_NoneType_list, is_NoneType_tuple, is_bool_int, is_bool_bool, is_bool_str, is_bool_list, is_bool_tuple, is_int_int, is_int_bool, is_int_str, is_int_list, is_int_tuple, is_str_int, is_str_bool, is_str_str, is_str_list, is_str_tuple, is_list_int, is_list_bool, is_list_str, is_list_list, is_list_tuple, is_tuple_int, is_tuple_bool, is_tuple_str, is_tuple_list, is_tuple_tuple, is_dict_int, is_dict_bool, is_dict_str, is_dict_list, is_dict_tuple, isiDs, L2.atI, L2.ixN, big, asgS_if, nl_un, nl_val, nl_own, q]
theorem levels_right (k : Nat) (p : Pot) {ds : List D} (h : ∀ d ∈ ds, Ts d) (l : ds.length ≤ 8) : ∃ p' : Pot, rn (k+5) 27 [.own p.w, .own ds] = some (.ret (.val (.bl true)) [.own p'.w, .own ds]) := by
  have c0 : ds.length + 2 ≤ 1000000 := by omega
  have sL := shd_L h l
  have sD := shd_ds h l
  have sL1 := sL.shd (by decide) (by decide)
  have sD1 := sD.shd (by decide) (by decide)
  have lv1 := levels_own (k+1) (fun d hd => (h d hd).th) (by omega)
  have lv2 := levels_tup (k+1) (fun d hd => (h d hd).th) (by omega)
  have il : (itg ds).length < 64 := by have := itg_len ds; omega
  simp [evSs, evS, evE, evEs, evB, evC, evO, evP, evI, callD, argSl, argSls, bors, wb, frz, frzs, sees, R.see, lockS, unlockS, asgR, retR, setD, asgT, unlockO, backA, endF, nIf, nIfs, isAnd, truD, RD.r, binD, cmpD, biD, ixD, Mn.Loc, keyD, meD, recv, gtD, apD, ↓evS_fr, ↓evE_lc, ↓evE_srt, eq_ss, eq_ii, eq_is, eq_si, ok_b, ok_t, bt, tb, in_b, in_t, in_i, gd0, gd1, gd2, gd3, is_NoneType_int, is_NoneType_bool, is_NoneType_str, is_NoneType_list, is_NoneType_tuple, is_bool_int, is_bool_bool, is_bool_str, is_bool_list, is_bool_tuple, is_int_int, is_int_bool, is_int_str, is_int_list, is_int_tuple, is_str_int, is_str_bool, is_str_str, is_str_list, is_str_tuple, is_list_int, is_list_bool, is_list_str, is_list_list, is_list_tuple, is_tuple_int, is_tuple_bool, is_tuple_str, is_tuple_list, is_tuple_tuple, is_dict_int, is_dict_bool, is_dict_str, is_dict_list, is_dict_tuple, isiDs, L2.atI, L2.ixN, big, asgS_if, nl_un, nl_val, nl_own, fn27, b38, c0]
  generalize hb : lpS (rn (k+4)) tf gd (2, 8) _ = fb
  obtain ⟨δ', e, p', s2, s3, s4, s5, q1, n2, n3, n4, n5⟩ := fr_inv2 (np := (2, 8)) (fb := fb) (x := 2) (all := ds ++ [sB, sT]) (fun _ δ => ∃ (p' : Pot) (s2 s3 s4 s5 : Sl), δ = [.own p'.w, .own ds, s2, s3, s4, s5, .un, .un] ∧ nlk s2 = true ∧ nlk s3 = true ∧ nlk s4 = true ∧ nlk s5 = true)
    (fun ys x zs δ he ⟨p', s2, s3, s4, s5, e1, n2, n3, n4, n5⟩ => by
      subst e1
      have hx : Ts x := by
        have : x ∈ ds ++ [sB, sT] := by rw [← he]; simp [evSs, evS, evE, evEs, evB, evC, evO, evP, evI, callD, argSl, argSls, bors, wb, frz, frzs, sees, R.see, lockS, unlockS, asgR, retR, setD, asgT, unlockO, backA, endF, nIf, nIfs, isAnd, truD, RD.r, binD, cmpD, biD, ixD, Mn.Loc, keyD, meD, recv, gtD, apD, ↓evS_fr, ↓evE_lc, ↓evE_srt, eq_ss, eq_ii, eq_is, eq_si, ok_b, ok_t, bt, tb, in_b, in_t, in_i, gd0, gd1, gd2, gd3, is_NoneType_int, is_NoneType_bool, is_NoneType_str, is_NoneType_list, is_NoneType_tuple, is_bool_int, is_bool_bool, is_bool_str, is_bool_list, is_bool_tuple, is_int_int, is_int_bool, is_int_str, is_int_list, is_int_tuple, is_str_int, is_str_bool, is_str_str, is_str_list, is_str_tuple, is_list_int, is_list_bool, is_list_str, is_list_list, is_list_tuple, is_tuple_int, is_tuple_bool, is_tuple_str, is_tuple_list, is_tuple_tuple, is_dict_int, is_dict_bool, is_dict_str, is_dict_list, is_dict_tuple, isiDs, L2.atI, L2.ixN, big, asgS_if, nl_un, nl_val, nl_own]
        simp [evSs, evS, evE, evEs, evB, evC, evO, evP, evI, callD, argSl, argSls, bors, wb, frz, frzs, sees, R.see, lockS, unlockS, asgR, retR, setD, asgT, unlockO, backA, endF, nIf, nIfs, isAnd, truD, RD.r, binD, cmpD, biD, ixD, Mn.Loc, keyD, meD, recv, gtD, apD, ↓evS_fr, ↓evE_lc, ↓evE_srt, eq_ss, eq_ii, eq_is, eq_si, ok_b, ok_t, bt, tb, in_b, in_t, in_i, gd0, gd1, gd2, gd3, is_NoneType_int, is_NoneType_bool, is_NoneType_str, is_NoneType_list, is_NoneType_tuple, is_bool_int, is_bool_bool, is_bool_str, is_bool_list, is_bool_tuple, is_int_int, is_int_bool, is_int_str, is_int_list, is_int_tuple, is_str_int, is_str_bool, is_str_str, is_str_list, is_str_tuple, is_list_int, is_list_bool, is_list_str, is_list_list, is_list_tuple, is_tuple_int, is_tuple_bool, is_tuple_str, is_tuple_list, is_tuple_tuple, is_dict_int, is_dict_bool, is_dict_str, is_dict_list, is_dict_tuple, isiDs, L2.atI, L2.ixN, big, asgS_if, nl_un, nl_val, nl_own] at this
        rcases this with q | rfl | rfl
        · exact h x q
        · exact .bot
        · exact .top
      have dr := draw (k+3) p' (m := 41) (by decide) (by decide)
      obtain ⟨z0, z1⟩ := dv_r p' (m := 41) (by decide)
      refine ⟨[.own p'.w, .own ds, .val x, s3, s4, s5, .un, .un], ?_⟩
      subst hb
      have al : ∀ {i : Int}, Th (.int i) → rn (k+4) 14 [.val x, .val (.int i)] = _ := fun hi => at_lev k hx.th hi
      have nu := number (k+3) hx.th
      have rt := rks_th hx z0 z1
      have svT : shD sT = _ := Th.top.sh.shd (by decide) (by decide)
      have svB : shD sB = _ := Th.bot.sh.shd (by decide) (by decide)
      have soT := Th.top.sh.so
      have soB := Th.bot.sh.so
      cases hx with
      | bot =>
        simp [evSs, evS, evE, evEs, evB, evC, evO, evP, evI, callD, argSl, argSls, bors, wb, frz, frzs, sees, R.see, lockS, unlockS, asgR, retR, setD, asgT, unlockO, backA, endF, nIf, nIfs, isAnd, truD, RD.r, binD, cmpD, biD, ixD, Mn.Loc, keyD, meD, recv, gtD, apD, ↓evS_fr, ↓evE_lc, ↓evE_srt, eq_ss, eq_ii, eq_is, eq_si, ok_b, ok_t, bt, tb, in_b, in_t, in_i, gd0, gd1, gd2, gd3, is_NoneType_int, is_NoneType_bool, is_NoneType_str, is_NoneType_list, is_NoneType_tuple, is_bool_int, is_bool_bool, is_bool_str, is_bool_list, is_bool_tuple, is_int_int, is_int_bool, is_int_str, is_int_list, is_int_tuple, is_str_int, is_str_bool, is_str_str, is_str_list, is_str_tuple, is_list_int, is_list_bool, is_list_str, is_list_list, is_list_tuple, is_tuple_int, is_tuple_bool, is_tuple_str, is_tuple_list, is_tuple_tuple, is_dict_int, is_dict_bool, is_dict_str, is_dict_list, is_dict_tuple, isiDs, L2.atI, L2.ixN, big, asgS_if, nl_un, nl_val, nl_own, lpS, n2, n3, dr]
        generalize hb : lpS (rn (k+4)) tf gd (2, 8) _ = fb
        obtain ⟨s4', s5', m4, m5, e⟩ := inner (fb := fb) (a := .own (dn p' 41).w) (b := .own ds) (c := .own []) (x := sB) (fun r s5 hr h5 => by
          subst hb
          have a := al hr
          by_cases q : r ≤ num (sB)
          · have el : lev (sB) r = sT := by simp [evSs, evS, evE, evEs, evB, evC, evO, evP, evI, callD, argSl, argSls, bors, wb, frz, frzs, sees, R.see, lockS, unlockS, asgR, retR, setD, asgT, unlockO, backA, endF, nIf, nIfs, isAnd, truD, RD.r, binD, cmpD, biD, ixD, Mn.Loc, keyD, meD, recv, gtD, apD, ↓evS_fr, ↓evE_lc, ↓evE_srt, eq_ss, eq_ii, eq_is, eq_si, ok_b, ok_t, bt, tb, in_b, in_t, in_i, gd0, gd1, gd2, gd3, is_NoneType_int, is_NoneType_bool, is_NoneType_str, is_NoneType_list, is_NoneType_tuple, is_bool_int, is_bool_bool, is_bool_str, is_bool_list, is_bool_tuple, is_int_int, is_int_bool, is_int_str, is_int_list, is_int_tuple, is_str_int, is_str_bool, is_str_str, is_str_list, is_str_tuple, is_list_int, is_list_bool, is_list_str, is_list_list, is_list_tuple, is_tuple_int, is_tuple_bool, is_tuple_str, is_tuple_list, is_tuple_tuple, is_dict_int, is_dict_bool, is_dict_str, is_dict_list, is_dict_tuple, isiDs, L2.atI, L2.ixN, big, asgS_if, nl_un, nl_val, nl_own, lev, q]
            rw [el] at a ⊢
            simp [evSs, evS, evE, evEs, evB, evC, evO, evP, evI, callD, argSl, argSls, bors, wb, frz, frzs, sees, R.see, lockS, unlockS, asgR, retR, setD, asgT, unlockO, backA, endF, nIf, nIfs, isAnd, truD, RD.r, binD, cmpD, biD, ixD, Mn.Loc, keyD, meD, recv, gtD, apD, ↓evS_fr, ↓evE_lc, ↓evE_srt, eq_ss, eq_ii, eq_is, eq_si, ok_b, ok_t, bt, tb, in_b, in_t, in_i, gd0, gd1, gd2, gd3, is_NoneType_int, is_NoneType_bool, is_NoneType_str, is_NoneType_list, is_NoneType_tuple, is_bool_int, is_bool_bool, is_bool_str, is_bool_list, is_bool_tuple, is_int_int, is_int_bool, is_int_str, is_int_list, is_int_tuple, is_str_int, is_str_bool, is_str_str, is_str_list, is_str_tuple, is_list_int, is_list_bool, is_list_str, is_list_list, is_list_tuple, is_tuple_int, is_tuple_bool, is_tuple_str, is_tuple_list, is_tuple_tuple, is_dict_int, is_dict_bool, is_dict_str, is_dict_list, is_dict_tuple, isiDs, L2.atI, L2.ixN, big, asgS_if, nl_un, nl_val, nl_own, lpS, nu, h5, a, q, svT, soT]
          · have el : lev (sB) r = sB := by simp [evSs, evS, evE, evEs, evB, evC, evO, evP, evI, callD, argSl, argSls, bors, wb, frz, frzs, sees, R.see, lockS, unlockS, asgR, retR, setD, asgT, unlockO, backA, endF, nIf, nIfs, isAnd, truD, RD.r, binD, cmpD, biD, ixD, Mn.Loc, keyD, meD, recv, gtD, apD, ↓evS_fr, ↓evE_lc, ↓evE_srt, eq_ss, eq_ii, eq_is, eq_si, ok_b, ok_t, bt, tb, in_b, in_t, in_i, gd0, gd1, gd2, gd3, is_NoneType_int, is_NoneType_bool, is_NoneType_str, is_NoneType_list, is_NoneType_tuple, is_bool_int, is_bool_bool, is_bool_str, is_bool_list, is_bool_tuple, is_int_int, is_int_bool, is_int_str, is_int_list, is_int_tuple, is_str_int, is_str_bool, is_str_str, is_str_list, is_str_tuple, is_list_int, is_list_bool, is_list_str, is_list_list, is_list_tuple, is_tuple_int, is_tuple_bool, is_tuple_str, is_tuple_list, is_tuple_tuple, is_dict_int, is_dict_bool, is_dict_str, is_dict_list, is_dict_tuple, isiDs, L2.atI, L2.ixN, big, asgS_if, nl_un, nl_val, nl_own, lev, q]
            rw [el] at a ⊢
            simp [evSs, evS, evE, evEs, evB, evC, evO, evP, evI, callD, argSl, argSls, bors, wb, frz, frzs, sees, R.see, lockS, unlockS, asgR, retR, setD, asgT, unlockO, backA, endF, nIf, nIfs, isAnd, truD, RD.r, binD, cmpD, biD, ixD, Mn.Loc, keyD, meD, recv, gtD, apD, ↓evS_fr, ↓evE_lc, ↓evE_srt, eq_ss, eq_ii, eq_is, eq_si, ok_b, ok_t, bt, tb, in_b, in_t, in_i, gd0, gd1, gd2, gd3, is_NoneType_int, is_NoneType_bool, is_NoneType_str, is_NoneType_list, is_NoneType_tuple, is_bool_int, is_bool_bool, is_bool_str, is_bool_list, is_bool_tuple, is_int_int, is_int_bool, is_int_str, is_int_list, is_int_tuple, is_str_int, is_str_bool, is_str_str, is_str_list, is_str_tuple, is_list_int, is_list_bool, is_list_str, is_list_list, is_list_tuple, is_tuple_int, is_tuple_bool, is_tuple_str, is_tuple_list, is_tuple_tuple, is_dict_int, is_dict_bool, is_dict_str, is_dict_list, is_dict_tuple, isiDs, L2.atI, L2.ixN, big, asgS_if, nl_un, nl_val, nl_own, lpS, nu, h5, a, q, svB, soB]) (rks (sB) (dv p' 41)) s4 s5 rt n4 n5
        simp [evSs, evS, evE, evEs, evB, evC, evO, evP, evI, callD, argSl, argSls, bors, wb, frz, frzs, sees, R.see, lockS, unlockS, asgR, retR, setD, asgT, unlockO, backA, endF, nIf, nIfs, isAnd, truD, RD.r, binD, cmpD, biD, ixD, Mn.Loc, keyD, meD, recv, gtD, apD, ↓evS_fr, ↓evE_lc, ↓evE_srt, eq_ss, eq_ii, eq_is, eq_si, ok_b, ok_t, bt, tb, in_b, in_t, in_i, gd0, gd1, gd2, gd3, is_NoneType_int, is_NoneType_bool, is_NoneType_str, is_NoneType_list, is_NoneType_tuple, is_bool_int, is_bool_bool, is_bool_str, is_bool_list, is_bool_tuple, is_int_int, is_int_bool, is_int_str, is_int_list, is_int_tuple, is_str_int, is_str_bool, is_str_str, is_str_list, is_str_tuple, is_list_int, is_list_bool, is_list_str, is_list_list, is_list_tuple, is_tuple_int, is_tuple_bool, is_tuple_str, is_tuple_list, is_tuple_tuple, is_dict_int, is_dict_bool, is_dict_str, is_dict_list, is_dict_tuple, isiDs, L2.atI, L2.ixN, big, asgS_if, nl_un, nl_val, nl_own, rks, ownL, isI, num] at e
        rw [e]
        simp [evSs, evS, evE, evEs, evB, evC, evO, evP, evI, callD, argSl, argSls, bors, wb, frz, frzs, sees, R.see, lockS, unlockS, asgR, retR, setD, asgT, unlockO, backA, endF, nIf, nIfs, isAnd, truD, RD.r, binD, cmpD, biD, ixD, Mn.Loc, keyD, meD, recv, gtD, apD, ↓evS_fr, ↓evE_lc, ↓evE_srt, eq_ss, eq_ii, eq_is, eq_si, ok_b, ok_t, bt, tb, in_b, in_t, in_i, gd0, gd1, gd2, gd3, is_NoneType_int, is_NoneType_bool, is_NoneType_str, is_NoneType_list, is_NoneType_tuple, is_bool_int, is_bool_bool, is_bool_str, is_bool_list, is_bool_tuple, is_int_int, is_int_bool, is_int_str, is_int_list, is_int_tuple, is_str_int, is_str_bool, is_str_str, is_str_list, is_str_tuple, is_list_int, is_list_bool, is_list_str, is_list_list, is_list_tuple, is_tuple_int, is_tuple_bool, is_tuple_str, is_tuple_list, is_tuple_tuple, is_dict_int, is_dict_bool, is_dict_str, is_dict_list, is_dict_tuple, isiDs, L2.atI, L2.ixN, big, asgS_if, nl_un, nl_val, nl_own]
        exact ⟨_, _, _, _, _, ⟨rfl, rfl, rfl, rfl, rfl⟩, rfl, rfl, m4, m5⟩
      | top =>
        simp [evSs, evS, evE, evEs, evB, evC, evO, evP, evI, callD, argSl, argSls, bors, wb, frz, frzs, sees, R.see, lockS, unlockS, asgR, retR, setD, asgT, unlockO, backA, endF, nIf, nIfs, isAnd, truD, RD.r, binD, cmpD, biD, ixD, Mn.Loc, keyD, meD, recv, gtD, apD, ↓evS_fr, ↓evE_lc, ↓evE_srt, eq_ss, eq_ii, eq_is, eq_si, ok_b, ok_t, bt, tb, in_b, in_t, in_i, gd0, gd1, gd2, gd3, is_NoneType_int, is_NoneType_bool, is_NoneType_str, is_NoneType_list, is_NoneType_tuple, is_bool_int, is_bool_bool, is_bool_str, is_bool_list, is_bool_tuple, is_int_int, is_int_bool, is_int_str, is_int_list, is_int_tuple, is_str_int, is_str_bool, is_str_str, is_str_list, is_str_tuple, is_list_int, is_list_bool, is_list_str, is_list_list, is_list_tuple, is_tuple_int, is_tuple_bool, is_tuple_str, is_tuple_list, is_tuple_tuple, is_dict_int, is_dict_bool, is_dict_str, is_dict_list, is_dict_tuple, isiDs, L2.atI, L2.ixN, big, asgS_if, nl_un, nl_val, nl_own, lpS, n2, n3, dr]
        generalize hb : lpS (rn (k+4)) tf gd (2, 8) _ = fb
        obtain ⟨s4', s5', m4, m5, e⟩ := inner (fb := fb) (a := .own (dn p' 41).w) (b := .own ds) (c := .own []) (x := sT) (fun r s5 hr h5 => by
          subst hb
          have a := al hr
          by_cases q : r ≤ num (sT)
          · have el : lev (sT) r = sT := by simp [evSs, evS, evE, evEs, evB, evC, evO, evP, evI, callD, argSl, argSls, bors, wb, frz, frzs, sees, R.see, lockS, unlockS, asgR, retR, setD, asgT, unlockO, backA, endF, nIf, nIfs, isAnd, truD, RD.r, binD, cmpD, biD, ixD, Mn.Loc, keyD, meD, recv, gtD, apD, ↓evS_fr, ↓evE_lc, ↓evE_srt, eq_ss, eq_ii, eq_is, eq_si, ok_b, ok_t, bt, tb, in_b, in_t, in_i, gd0, gd1, gd2, gd3, is_NoneType_int, is_NoneType_bool, is_NoneType_str, is_NoneType_list, is_NoneType_tuple, is_bool_int, is_bool_bool, is_bool_str, is_bool_list, is_bool_tuple, is_int_int, is_int_bool, is_int_str, is_int_list, is_int_tuple, is_str_int, is_str_bool, is_str_str, is_str_list, is_str_tuple, is_list_int, is_list_bool, is_list_str, is_list_list, is_list_tuple, is_tuple_int, is_tuple_bool, is_tuple_str, is_tuple_list, is_tuple_tuple, is_dict_int, is_dict_bool, is_dict_str, is_dict_list, is_dict_tuple, isiDs, L2.atI, L2.ixN, big, asgS_if, nl_un, nl_val, nl_own, lev, q]
            rw [el] at a ⊢
            simp [evSs, evS, evE, evEs, evB, evC, evO, evP, evI, callD, argSl, argSls, bors, wb, frz, frzs, sees, R.see, lockS, unlockS, asgR, retR, setD, asgT, unlockO, backA, endF, nIf, nIfs, isAnd, truD, RD.r, binD, cmpD, biD, ixD, Mn.Loc, keyD, meD, recv, gtD, apD, ↓evS_fr, ↓evE_lc, ↓evE_srt, eq_ss, eq_ii, eq_is, eq_si, ok_b, ok_t, bt, tb, in_b, in_t, in_i, gd0, gd1, gd2, gd3, is_NoneType_int, is_NoneType_bool, is_NoneType_str, is_NoneType_list, is_NoneType_tuple, is_bool_int, is_bool_bool, is_bool_str, is_bool_list, is_bool_tuple, is_int_int, is_int_bool, is_int_str, is_int_list, is_int_tuple, is_str_int, is_str_bool, is_str_str, is_str_list, is_str_tuple, is_list_int, is_list_bool, is_list_str, is_list_list, is_list_tuple, is_tuple_int, is_tuple_bool, is_tuple_str, is_tuple_list, is_tuple_tuple, is_dict_int, is_dict_bool, is_dict_str, is_dict_list, is_dict_tuple, isiDs, L2.atI, L2.ixN, big, asgS_if, nl_un, nl_val, nl_own, lpS, nu, h5, a, q, svT, soT]
          · have el : lev (sT) r = sB := by simp [evSs, evS, evE, evEs, evB, evC, evO, evP, evI, callD, argSl, argSls, bors, wb, frz, frzs, sees, R.see, lockS, unlockS, asgR, retR, setD, asgT, unlockO, backA, endF, nIf, nIfs, isAnd, truD, RD.r, binD, cmpD, biD, ixD, Mn.Loc, keyD, meD, recv, gtD, apD, ↓evS_fr, ↓evE_lc, ↓evE_srt, eq_ss, eq_ii, eq_is, eq_si, ok_b, ok_t, bt, tb, in_b, in_t, in_i, gd0, gd1, gd2, gd3, is_NoneType_int, is_NoneType_bool, is_NoneType_str, is_NoneType_list, is_NoneType_tuple, is_bool_int, is_bool_bool, is_bool_str, is_bool_list, is_bool_tuple, is_int_int, is_int_bool, is_int_str, is_int_list, is_int_tuple, is_str_int, is_str_bool, is_str_str, is_str_list, is_str_tuple, is_list_int, is_list_bool, is_list_str, is_list_list, is_list_tuple, is_tuple_int, is_tuple_bool, is_tuple_str, is_tuple_list, is_tuple_tuple, is_dict_int, is_dict_bool, is_dict_str, is_dict_list, is_dict_tuple, isiDs, L2.atI, L2.ixN, big, asgS_if, nl_un, nl_val, nl_own, lev, q]
            rw [el] at a ⊢
            simp [evSs, evS, evE, evEs, evB, evC, evO, evP, evI, callD, argSl, argSls, bors, wb, frz, frzs, sees, R.see, lockS, unlockS, asgR, retR, setD, asgT, unlockO, backA, endF, nIf, nIfs, isAnd, truD, RD.r, binD, cmpD, biD, ixD, Mn.Loc, keyD, meD, recv, gtD, apD, ↓evS_fr, ↓evE_lc, ↓evE_srt, eq_ss, eq_ii, eq_is, eq_si, ok_b, ok_t, bt, tb, in_b, in_t, in_i, gd0, gd1, gd2, gd3, is_NoneType_int, is_NoneType_bool, is_NoneType_str, is_NoneType_list, is_NoneType_tuple, is_bool_int, is_bool_bool, is_bool_str, is_bool_list, is_bool_tuple, is_int_int, is_int_bool, is_int_str, is_int_list, is_int_tuple, is_str_int, is_str_bool, is_str_str, is_str_list, is_str_tuple, is_list_int, is_list_bool, is_list_str, is_list_list, is_list_tuple, is_tuple_int, is_tuple_bool, is_tuple_str, is_tuple_list, is_tuple_tuple, is_dict_int, is_dict_bool, is_dict_str, is_dict_list, is_dict_tuple, isiDs, L2.atI, L2.ixN, big, asgS_if, nl_un, nl_val, nl_own, lpS, nu, h5, a, q, svB, soB]) (rks (sT) (dv p' 41)) s4 s5 rt n4 n5
        simp [evSs, evS, evE, evEs, evB, evC, evO, evP, evI, callD, argSl, argSls, bors, wb, frz, frzs, sees, R.see, lockS, unlockS, asgR, retR, setD, asgT, unlockO, backA, endF, nIf, nIfs, isAnd, truD, RD.r, binD, cmpD, biD, ixD, Mn.Loc, keyD, meD, recv, gtD, apD, ↓evS_fr, ↓evE_lc, ↓evE_srt, eq_ss, eq_ii, eq_is, eq_si, ok_b, ok_t, bt, tb, in_b, in_t, in_i, gd0, gd1, gd2, gd3, is_NoneType_int, is_NoneType_bool, is_NoneType_str, is_NoneType_list, is_NoneType_tuple, is_bool_int, is_bool_bool, is_bool_str, is_bool_list, is_bool_tuple, is_int_int, is_int_bool, is_int_str, is_int_list, is_int_tuple, is_str_int, is_str_bool, is_str_str, is_str_list, is_str_tuple, is_list_int, is_list_bool, is_list_str, is_list_list, is_list_tuple, is_tuple_int, is_tuple_bool, is_tuple_str, is_tuple_list, is_tuple_tuple, is_dict_int, is_dict_bool, is_dict_str, is_dict_list, is_dict_tuple, isiDs, L2.atI, L2.ixN, big, asgS_if, nl_un, nl_val, nl_own, rks, ownL, isI, num] at e
        rw [e]
        simp [evSs, evS, evE, evEs, evB, evC, evO, evP, evI, callD, argSl, argSls, bors, wb, frz, frzs, sees, R.see, lockS, unlockS, asgR, retR, setD, asgT, unlockO, backA, endF, nIf, nIfs, isAnd, truD, RD.r, binD, cmpD, biD, ixD, Mn.Loc, keyD, meD, recv, gtD, apD, ↓evS_fr, ↓evE_lc, ↓evE_srt, eq_ss, eq_ii, eq_is, eq_si, ok_b, ok_t, bt, tb, in_b, in_t, in_i, gd0, gd1, gd2, gd3, is_NoneType_int, is_NoneType_bool, is_NoneType_str, is_NoneType_list, is_NoneType_tuple, is_bool_int, is_bool_bool, is_bool_str, is_bool_list, is_bool_tuple, is_int_int, is_int_bool, is_int_str, is_int_list, is_int_tuple, is_str_int, is_str_bool, is_str_str, is_str_list, is_str_tuple, is_list_int, is_list_bool, is_list_str, is_list_list, is_list_tuple, is_tuple_int, is_tuple_bool, is_tuple_str, is_tuple_list, is_tuple_tuple, is_dict_int, is_dict_bool, is_dict_str, is_dict_list, is_dict_tuple, isiDs, L2.atI, L2.ixN, big, asgS_if, nl_un, nl_val, nl_own]
        exact ⟨_, _, _, _, _, ⟨rfl, rfl, rfl, rfl, rfl⟩, rfl, rfl, m4, m5⟩
      | int i a b =>
        simp [evSs, evS, evE, evEs, evB, evC, evO, evP, evI, callD, argSl, argSls, bors, wb, frz, frzs, sees, R.see, lockS, unlockS, asgR, retR, setD, asgT, unlockO, backA, endF, nIf, nIfs, isAnd, truD, RD.r, binD, cmpD, biD, ixD, Mn.Loc, keyD, meD, recv, gtD, apD, ↓evS_fr, ↓evE_lc, ↓evE_srt, eq_ss, eq_ii, eq_is, eq_si, ok_b, ok_t, bt, tb, in_b, in_t, in_i, gd0, gd1, gd2, gd3, is_NoneType_int, is_NoneType_bool, is_NoneType_str, is_NoneType_list, is_NoneType_tuple, is_bool_int, is_bool_bool, is_bool_str, is_bool_list, is_bool_tuple, is_int_int, is_int_bool, is_int_str, is_int_list, is_int_tuple, is_str_int, is_str_bool, is_str_str, is_str_list, is_str_tuple, is_list_int, is_list_bool, is_list_str, is_list_list, is_list_tuple, is_tuple_int, is_tuple_bool, is_tuple_str, is_tuple_list, is_tuple_tuple, is_dict_int, is_dict_bool, is_dict_str, is_dict_list, is_dict_tuple, isiDs, L2.atI, L2.ixN, big, asgS_if, nl_un, nl_val, nl_own, lpS, n2, n3, dr]
        generalize hb : lpS (rn (k+4)) tf gd (2, 8) _ = fb
        obtain ⟨s4', s5', m4, m5, e⟩ := inner (fb := fb) (a := .own (dn p' 41).w) (b := .own ds) (c := .own [.int i, .int (i + 1), .int (i - 1)]) (x := .int i) (fun r s5 hr h5 => by
          subst hb
          have a := al hr
          by_cases q : r ≤ num (.int i)
          · have el : lev (.int i) r = sT := by simp [evSs, evS, evE, evEs, evB, evC, evO, evP, evI, callD, argSl, argSls, bors, wb, frz, frzs, sees, R.see, lockS, unlockS, asgR, retR, setD, asgT, unlockO, backA, endF, nIf, nIfs, isAnd, truD, RD.r, binD, cmpD, biD, ixD, Mn.Loc, keyD, meD, recv, gtD, apD, ↓evS_fr, ↓evE_lc, ↓evE_srt, eq_ss, eq_ii, eq_is, eq_si, ok_b, ok_t, bt, tb, in_b, in_t, in_i, gd0, gd1, gd2, gd3, is_NoneType_int, is_NoneType_bool, is_NoneType_str, is_NoneType_list, is_NoneType_tuple, is_bool_int, is_bool_bool, is_bool_str, is_bool_list, is_bool_tuple, is_int_int, is_int_bool, is_int_str, is_int_list, is_int_tuple, is_str_int, is_str_bool, is_str_str, is_str_list, is_str_tuple, is_list_int, is_list_bool, is_list_str, is_list_list, is_list_tuple, is_tuple_int, is_tuple_bool, is_tuple_str, is_tuple_list, is_tuple_tuple, is_dict_int, is_dict_bool, is_dict_str, is_dict_list, is_dict_tuple, isiDs, L2.atI, L2.ixN, big, asgS_if, nl_un, nl_val, nl_own, lev, q]
            rw [el] at a ⊢
            simp [evSs, evS, evE, evEs, evB, evC, evO, evP, evI, callD, argSl, argSls, bors, wb, frz, frzs, sees, R.see, lockS, unlockS, asgR, retR, setD, asgT, unlockO, backA, endF, nIf, nIfs, isAnd, truD, RD.r, binD, cmpD, biD, ixD, Mn.Loc, keyD, meD, recv, gtD, apD, ↓evS_fr, ↓evE_lc, ↓evE_srt, eq_ss, eq_ii, eq_is, eq_si, ok_b, ok_t, bt, tb, in_b, in_t, in_i, gd0, gd1, gd2, gd3, is_NoneType_int, is_NoneType_bool, is_NoneType_str, is_NoneType_list, is_NoneType_tuple, is_bool_int, is_bool_bool, is_bool_str, is_bool_list, is_bool_tuple, is_int_int, is_int_bool, is_int_str, is_int_list, is_int_tuple, is_str_int, is_str_bool, is_str_str, is_str_list, is_str_tuple, is_list_int, is_list_bool, is_list_str, is_list_list, is_list_tuple, is_tuple_int, is_tuple_bool, is_tuple_str, is_tuple_list, is_tuple_tuple, is_dict_int, is_dict_bool, is_dict_str, is_dict_list, is_dict_tuple, isiDs, L2.atI, L2.ixN, big, asgS_if, nl_un, nl_val, nl_own, lpS, nu, h5, a, q, svT, soT]
          · have el : lev (.int i) r = sB := by simp [evSs, evS, evE, evEs, evB, evC, evO, evP, evI, callD, argSl, argSls, bors, wb, frz, frzs, sees, R.see, lockS, unlockS, asgR, retR, setD, asgT, unlockO, backA, endF, nIf, nIfs, isAnd, truD, RD.r, binD, cmpD, biD, ixD, Mn.Loc, keyD, meD, recv, gtD, apD, ↓evS_fr, ↓evE_lc, ↓evE_srt, eq_ss, eq_ii, eq_is, eq_si, ok_b, ok_t, bt, tb, in_b, in_t, in_i, gd0, gd1, gd2, gd3, is_NoneType_int, is_NoneType_bool, is_NoneType_str, is_NoneType_list, is_NoneType_tuple, is_bool_int, is_bool_bool, is_bool_str, is_bool_list, is_bool_tuple, is_int_int, is_int_bool, is_int_str, is_int_list, is_int_tuple, is_str_int, is_str_bool, is_str_str, is_str_list, is_str_tuple, is_list_int, is_list_bool, is_list_str, is_list_list, is_list_tuple, is_tuple_int, is_tuple_bool, is_tuple_str, is_tuple_list, is_tuple_tuple, is_dict_int, is_dict_bool, is_dict_str, is_dict_list, is_dict_tuple, isiDs, L2.atI, L2.ixN, big, asgS_if, nl_un, nl_val, nl_own, lev, q]
            rw [el] at a ⊢
            simp [evSs, evS, evE, evEs, evB, evC, evO, evP, evI, callD, argSl, argSls, bors, wb, frz, frzs, sees, R.see, lockS, unlockS, asgR, retR, setD, asgT, unlockO, backA, endF, nIf, nIfs, isAnd, truD, RD.r, binD, cmpD, biD, ixD, Mn.Loc, keyD, meD, recv, gtD, apD, ↓evS_fr, ↓evE_lc, ↓evE_srt, eq_ss, eq_ii, eq_is, eq_si, ok_b, ok_t, bt, tb, in_b, in_t, in_i, gd0, gd1, gd2, gd3, is_NoneType_int, is_NoneType_bool, is_NoneType_str, is_NoneType_list, is_NoneType_tuple, is_bool_int, is_bool_bool, is_bool_str, is_bool_list, is_bool_tuple, is_int_int, is_int_bool, is_int_str, is_int_list, is_int_tuple, is_str_int, is_str_bool, is_str_str, is_str_list, is_str_tuple, is_list_int, is_list_bool, is_list_str, is_list_list, is_list_tuple, is_tuple_int, is_tuple_bool, is_tuple_str, is_tuple_list, is_tuple_tuple, is_dict_int, is_dict_bool, is_dict_str, is_dict_list, is_dict_tuple, isiDs, L2.atI, L2.ixN, big, asgS_if, nl_un, nl_val, nl_own, lpS, nu, h5, a, q, svB, soB]) (rks (.int i) (dv p' 41)) s4 s5 rt n4 n5
        simp [evSs, evS, evE, evEs, evB, evC, evO, evP, evI, callD, argSl, argSls, bors, wb, frz, frzs, sees, R.see, lockS, unlockS, asgR, retR, setD, asgT, unlockO, backA, endF, nIf, nIfs, isAnd, truD, RD.r, binD, cmpD, biD, ixD, Mn.Loc, keyD, meD, recv, gtD, apD, ↓evS_fr, ↓evE_lc, ↓evE_srt, eq_ss, eq_ii, eq_is, eq_si, ok_b, ok_t, bt, tb, in_b, in_t, in_i, gd0, gd1, gd2, gd3, is_NoneType_int, is_NoneType_bool, is_NoneType_str, is_NoneType_list, is_NoneType_tuple, is_bool_int, is_bool_bool, is_bool_str, is_bool_list, is_bool_tuple, is_int_int, is_int_bool, is_int_str, is_int_list, is_int_tuple, is_str_int, is_str_bool, is_str_str, is_str_list, is_str_tuple, is_list_int, is_list_bool, is_list_str, is_list_list, is_list_tuple, is_tuple_int, is_tuple_bool, is_tuple_str, is_tuple_list, is_tuple_tuple, is_dict_int, is_dict_bool, is_dict_str, is_dict_list, is_dict_tuple, isiDs, L2.atI, L2.ixN, big, asgS_if, nl_un, nl_val, nl_own, rks, ownL, isI, num] at e
        rw [e]
        simp [evSs, evS, evE, evEs, evB, evC, evO, evP, evI, callD, argSl, argSls, bors, wb, frz, frzs, sees, R.see, lockS, unlockS, asgR, retR, setD, asgT, unlockO, backA, endF, nIf, nIfs, isAnd, truD, RD.r, binD, cmpD, biD, ixD, Mn.Loc, keyD, meD, recv, gtD, apD, ↓evS_fr, ↓evE_lc, ↓evE_srt, eq_ss, eq_ii, eq_is, eq_si, ok_b, ok_t, bt, tb, in_b, in_t, in_i, gd0, gd1, gd2, gd3, is_NoneType_int, is_NoneType_bool, is_NoneType_str, is_NoneType_list, is_NoneType_tuple, is_bool_int, is_bool_bool, is_bool_str, is_bool_list, is_bool_tuple, is_int_int, is_int_bool, is_int_str, is_int_list, is_int_tuple, is_str_int, is_str_bool, is_str_str, is_str_list, is_str_tuple, is_list_int, is_list_bool, is_list_str, is_list_list, is_list_tuple, is_tuple_int, is_tuple_bool, is_tuple_str, is_tuple_list, is_tuple_tuple, is_dict_int, is_dict_bool, is_dict_str, is_dict_list, is_dict_tuple, isiDs, L2.atI, L2.ixN, big, asgS_if, nl_un, nl_val, nl_own]
        exact ⟨_, _, _, _, _, ⟨rfl, rfl, rfl, rfl, rfl⟩, rfl, rfl, m4, m5⟩) (ds ++ [sB, sT]) [] [.own p.w, .own ds, .un, .un, .un, .un, .un, .un] rfl ⟨_, _, _, _, _, rfl, rfl, rfl, rfl, rfl⟩
  subst q1
  refine ⟨p', ?_⟩
  rw [e]
  simp [evSs, evS, evE, evEs, evB, evC, evO, evP, evI, callD, argSl, argSls, bors, wb, frz, frzs, sees, R.see, lockS, unlockS, asgR, retR, setD, asgT, unlockO, backA, endF, nIf, nIfs, isAnd, truD, RD.r, binD, cmpD, biD, ixD, Mn.Loc, keyD, meD, recv, gtD, apD, ↓evS_fr, ↓evE_lc, ↓evE_srt, eq_ss, eq_ii, eq_is, eq_si, ok_b, ok_t, bt, tb, in_b, in_t, in_i, gd0, gd1, gd2, gd3, is_NoneType_int, is_NoneType_bool, is_NoneType_str, is_NoneType_list, is_NoneType_tuple, is_bool_int, is_bool_bool, is_bool_str, is_bool_list, is_bool_tuple, is_int_int, is_int_bool, is_int_str, is_int_list, is_int_tuple, is_str_int, is_str_bool, is_str_str, is_str_list, is_str_tuple, is_list_int, is_list_bool, is_list_str, is_list_list, is_list_tuple, is_tuple_int, is_tuple_bool, is_tuple_str, is_tuple_list, is_tuple_tuple, is_dict_int, is_dict_bool, is_dict_str, is_dict_list, is_dict_tuple, isiDs, L2.atI, L2.ixN, big, asgS_if, nl_un, nl_val, nl_own, n5]
  rw [lc_to isI id (ds.filter isI) .un rfl (by simp [evSs, evS, evE, evEs, evB, evC, evO, evP, evI, callD, argSl, argSls, bors, wb, frz, frzs, sees, R.see, lockS, unlockS, asgR, retR, setD, asgT, unlockO, backA, endF, nIf, nIfs, isAnd, truD, RD.r, binD, cmpD, biD, ixD, Mn.Loc, keyD, meD, recv, gtD, apD, ↓evS_fr, ↓evE_lc, ↓evE_srt, eq_ss, eq_ii, eq_is, eq_si, ok_b, ok_t, bt, tb, in_b, in_t, in_i, gd0, gd1, gd2, gd3, is_NoneType_int, is_NoneType_bool, is_NoneType_str, is_NoneType_list, is_NoneType_tuple, is_bool_int, is_bool_bool, is_bool_str, is_bool_list, is_bool_tuple, is_int_int, is_int_bool, is_int_str, is_int_list, is_int_tuple, is_str_int, is_str_bool, is_str_str, is_str_list, is_str_tuple, is_list_int, is_list_bool, is_list_str, is_list_list, is_list_tuple, is_tuple_int, is_tuple_bool, is_tuple_str, is_tuple_list, is_tuple_tuple, is_dict_int, is_dict_bool, is_dict_str, is_dict_list, is_dict_tuple, isiDs, L2.atI, L2.ixN, big, asgS_if, nl_un, nl_val, nl_own]) (fun d hd => by simp [evSs, evS, evE, evEs, evB, evC, evO, evP, evI, callD, argSl, argSls, bors, wb, frz, frzs, sees, R.see, lockS, unlockS, asgR, retR, setD, asgT, unlockO, backA, endF, nIf, nIfs, isAnd, truD, RD.r, binD, cmpD, biD, ixD, Mn.Loc, keyD, meD, recv, gtD, apD, ↓evS_fr, ↓evE_lc, ↓evE_srt, eq_ss, eq_ii, eq_is, eq_si, ok_b, ok_t, bt, tb, in_b, in_t, in_i, gd0, gd1, gd2, gd3, is_NoneType_int, is_NoneType_bool, is_NoneType_str, is_NoneType_list, is_NoneType_tuple, is_bool_int, is_bool_bool, is_bool_str, is_bool_list, is_bool_tuple, is_int_int, is_int_bool, is_int_str, is_int_list, is_int_tuple, is_str_int, is_str_bool, is_str_str, is_str_list, is_str_tuple, is_list_int, is_list_bool, is_list_str, is_list_list, is_list_tuple, is_tuple_int, is_tuple_bool, is_tuple_str, is_tuple_list, is_tuple_tuple, is_dict_int, is_dict_bool, is_dict_str, is_dict_list, is_dict_tuple, isiDs, L2.atI, L2.ixN, big, asgS_if, nl_un, nl_val, nl_own, lpC, th_in (h d hd).th]) (fun d hd _ => by simp [evSs, evS, evE, evEs, evB, evC, evO, evP, evI, callD, argSl, argSls, bors, wb, frz, frzs, sees, R.see, lockS, unlockS, asgR, retR, setD, asgT, unlockO, backA, endF, nIf, nIfs, isAnd, truD, RD.r, binD, cmpD, biD, ixD, Mn.Loc, keyD, meD, recv, gtD, apD, ↓evS_fr, ↓evE_lc, ↓evE_srt, eq_ss, eq_ii, eq_is, eq_si, ok_b, ok_t, bt, tb, in_b, in_t, in_i, gd0, gd1, gd2, gd3, is_NoneType_int, is_NoneType_bool, is_NoneType_str, is_NoneType_list, is_NoneType_tuple, is_bool_int, is_bool_bool, is_bool_str, is_bool_list, is_bool_tuple, is_int_int, is_int_bool, is_int_str, is_int_list, is_int_tuple, is_str_int, is_str_bool, is_str_str, is_str_list, is_str_tuple, is_list_int, is_list_bool, is_list_str, is_list_list, is_list_tuple, is_tuple_int, is_tuple_bool, is_tuple_str, is_tuple_list, is_tuple_tuple, is_dict_int, is_dict_bool, is_dict_str, is_dict_list, is_dict_tuple, isiDs, L2.atI, L2.ixN, big, asgS_if, nl_un, nl_val, nl_own, lpE]) (by omega)]
  have eL : ((srtI (itg ds)).map D.int).reverse = L ds := rfl
  have lL : (L ds).length < 1000000 := by have := L_len (ds := ds); omega
  cases s2 with
  | lock xs => cases n2
  | _ => simp [evSs, evS, evE, evEs, evB, evC, evO, evP, evI, callD, argSl, argSls, bors, wb, frz, frzs, sees, R.see, lockS, unlockS, asgR, retR, setD, asgT, unlockO, backA, endF, nIf, nIfs, isAnd, truD, RD.r, binD, cmpD, biD, ixD, Mn.Loc, keyD, meD, recv, gtD, apD, ↓evS_fr, ↓evE_lc, ↓evE_srt, eq_ss, eq_ii, eq_is, eq_si, ok_b, ok_t, bt, tb, in_b, in_t, in_i, gd0, gd1, gd2, gd3, is_NoneType_int, is_NoneType_bool, is_NoneType_str, is_NoneType_list, is_NoneType_tuple, is_bool_int, is_bool_bool, is_bool_str, is_bool_list, is_bool_tuple, is_int_int, is_int_bool, is_int_str, is_int_list, is_int_tuple, is_str_int, is_str_bool, is_str_str, is_str_list, is_str_tuple, is_list_int, is_list_bool, is_list_str, is_list_list, is_list_tuple, is_tuple_int, is_tuple_bool, is_tuple_str, is_tuple_list, is_tuple_tuple, is_dict_int, is_dict_bool, is_dict_str, is_dict_list, is_dict_tuple, isiDs, L2.atI, L2.ixN, big, asgS_if, nl_un, nl_val, nl_own, asInts_f, il, n5, sD1, sL1, lv1, lv2, eL, sL.so, sD.so, lL]
end K11

-- P11k
set_option Elab.async false
set_option linter.all false
set_option maxRecDepth 100000
set_option maxHeartbeats 4000000
set_option autoImplicit false
namespace K11
open PySem Mn
theorem num_lo (f v : D) : num (lo f v) = min (num f) (num v) := by
  unfold lo
  split <;> omega
theorem num_hi (f v : D) : num (hi f v) = max (num f) (num v) := by
  unfold hi
  split <;> omega
theorem minI_cons (x y : Int) (r : List Int) : minI (x :: y :: r) = min x (minI (y :: r)) := by
  rw [minI]
  split <;> omega
theorem maxI_cons (x y : Int) (r : List Int) : maxI (x :: y :: r) = max x (maxI (y :: r)) := by
  rw [maxI]
  split <;> omega
theorem fold_lo : ∀ (d : D) (ds : List D) (f : D), num ((d :: ds).foldl lo f) = min (num f) (minI ((d :: ds).map num))
  | d, [], f => by simp [evSs, evS, evE, evEs, evB, evC, evO, evP, evI, callD, argSl, argSls, bors, wb, frz, frzs, sees, R.see, lockS, unlockS, asgR, retR, setD, asgT, unlockO, backA, endF, nIf, nIfs, isAnd, truD, RD.r, binD, cmpD, biD, ixD, Mn.Loc, keyD, meD, recv, gtD, apD, ↓evS_fr, ↓evE_lc, ↓evE_srt, eq_ss, eq_ii, eq_is, eq_si, ok_b, ok_t, bt, tb, in_b, in_t, in_i, gd0, gd1, gd2, gd3, is_NoneType_int, is_NoneType_bool, is_NoneType_str, is_NoneType_list, is_NoneType_tuple, is_bool_int, is_bool_bool, is_bool_str, is_bool_list, is_bool_tuple, is_int_int, is_int_bool, is_int_str, is_int_list, is_int_tuple, is_str_int, is_str_bool, is_str_str, is_str_list, is_str_tuple, is_list_int, is_list_bool, is_list_str, is_list_list, is_list_tuple, is_tuple_int, is_tuple_bool, is_tuple_str, is_tuple_list, is_tuple_tuple, is_dict_int, is_dict_bool, is_dict_str, is_dict_list, is_dict_tuple, isiDs, L2.atI, L2.ixN, big, asgS_if, nl_un, nl_val, nl_own, num_lo, minI]
  | d, e :: ds, f => by
    have := fold_lo e ds (lo f d)
    rw [List.foldl_cons, this, num_lo, show (d :: e :: ds).map num = num d :: num e :: ds.map num from rfl, minI_cons, List.map_cons]
    omega
theorem fold_hi : ∀ (d : D) (ds : List D) (f : D), num ((d :: ds).foldl hi f) = max (num f) (maxI ((d :: ds).map num))
  | d, [], f => by simp [evSs, evS, evE, evEs, evB, evC, evO, evP, evI, callD, argSl, argSls, bors, wb, frz, frzs, sees, R.see, lockS, unlockS, asgR, retR, setD, asgT, unlockO, backA, endF, nIf, nIfs, isAnd, truD, RD.r, binD, cmpD, biD, ixD, Mn.Loc, keyD, meD, recv, gtD, apD, ↓evS_fr, ↓evE_lc, ↓evE_srt, eq_ss, eq_ii, eq_is, eq_si, ok_b, ok_t, bt, tb, in_b, in_t, in_i, gd0, gd1, gd2, gd3, is_NoneType_int, is_NoneType_bool, is_NoneType_str, is_NoneType_list, is_NoneType_tuple, is_bool_int, is_bool_bool, is_bool_str, is_bool_list, is_bool_tuple, is_int_int, is_int_bool, is_int_str, is_int_list, is_int_tuple, is_str_int, is_str_bool, is_str_str, is_str_list, is_str_tuple, is_list_int, is_list_bool, is_list_str, is_list_list, is_list_tuple, is_tuple_int, is_tuple_bool, is_tuple_str, is_tuple_list, is_tuple_tuple, is_dict_int, is_dict_bool, is_dict_str, is_dict_list, is_dict_tuple, isiDs, L2.atI, L2.ixN, big, asgS_if, nl_un, nl_val, nl_own, num_hi, maxI]
  | d, e :: ds, f => by
    have := fold_hi e ds (hi f d)
    rw [List.foldl_cons, this, num_hi, show (d :: e :: ds).map num = num d :: num e :: ds.map num from rfl, maxI_cons, List.map_cons]
    omega
theorem Th.le {d : D} (h : Th d) : num d ≤ num sT ∧ num sB ≤ num d := by
  rw [num_b, num_t]
  cases h with
  | bot => rw [num_b]; decide
  | top => rw [num_t]; decide
  | int i h1 h2 => exact ⟨(th_i h1 h2).2.2.1, (th_i h1 h2).2.1⟩
theorem minI_le : ∀ (x : Int) (r : List Int), minI (x :: r) ≤ x
  | x, [] => by simp [evSs, evS, evE, evEs, evB, evC, evO, evP, evI, callD, argSl, argSls, bors, wb, frz, frzs, sees, R.see, lockS, unlockS, asgR, retR, setD, asgT, unlockO, backA, endF, nIf, nIfs, isAnd, truD, RD.r, binD, cmpD, biD, ixD, Mn.Loc, keyD, meD, recv, gtD, apD, ↓evS_fr, ↓evE_lc, ↓evE_srt, eq_ss, eq_ii, eq_is, eq_si, ok_b, ok_t, bt, tb, in_b, in_t, in_i, gd0, gd1, gd2, gd3, is_NoneType_int, is_NoneType_bool, is_NoneType_str, is_NoneType_list, is_NoneType_tuple, is_bool_int, is_bool_bool, is_bool_str, is_bool_list, is_bool_tuple, is_int_int, is_int_bool, is_int_str, is_int_list, is_int_tuple, is_str_int, is_str_bool, is_str_str, is_str_list, is_str_tuple, is_list_int, is_list_bool, is_list_str, is_list_list, is_list_tuple, is_tuple_int, is_tuple_bool, is_tuple_str, is_tuple_list, is_tuple_tuple, is_dict_int, is_dict_bool, is_dict_str, is_dict_list, is_dict_tuple, isiDs, L2.atI, L2.ixN, big, asgS_if, nl_un, nl_val, nl_own, minI]
  | x, y :: r => by rw [minI_cons]; omega
theorem maxI_ge : ∀ (x : Int) (r : List Int), x ≤ maxI (x :: r)
  | x, [] => by simp [evSs, evS, evE, evEs, evB, evC, evO, evP, evI, callD, argSl, argSls, bors, wb, frz, frzs, sees, R.see, lockS, unlockS, asgR, retR, setD, asgT, unlockO, backA, endF, nIf, nIfs, isAnd, truD, RD.r, binD, cmpD, biD, ixD, Mn.Loc, keyD, meD, recv, gtD, apD, ↓evS_fr, ↓evE_lc, ↓evE_srt, eq_ss, eq_ii, eq_is, eq_si, ok_b, ok_t, bt, tb, in_b, in_t, in_i, gd0, gd1, gd2, gd3, is_NoneType_int, is_NoneType_bool, is_NoneType_str, is_NoneType_list, is_NoneType_tuple, is_bool_int, is_bool_bool, is_bool_str, is_bool_list, is_bool_tuple, is_int_int, is_int_bool, is_int_str, is_int_list, is_int_tuple, is_str_int, is_str_bool, is_str_str, is_str_list, is_str_tuple, is_list_int, is_list_bool, is_list_str, is_list_list, is_list_tuple, is_tuple_int, is_tuple_bool, is_tuple_str, is_tuple_list, is_tuple_tuple, is_dict_int, is_dict_bool, is_dict_str, is_dict_list, is_dict_tuple, isiDs, L2.atI, L2.ixN, big, asgS_if, nl_un, nl_val, nl_own, maxI]
  | x, y :: r => by rw [maxI_cons]; omega
theorem low_num {d : D} {ds : List D} (h : Th d) : minI (num d :: ds.map num) = num ((d :: ds).foldl lo sT) := by
  have := fold_lo d ds sT
  have h1 := minI_le (num d) (ds.map num)
  have h2 := h.le.1
  rw [List.map_cons] at this
  omega
theorem high_num {d : D} {ds : List D} (h : Th d) : maxI (num d :: ds.map num) = num ((d :: ds).foldl hi sB) := by
  have := fold_hi d ds sB
  have h1 := maxI_ge (num d) (ds.map num)
  have h2 := h.le.2
  rw [List.map_cons] at this
  omega
theorem th_flo : ∀ {ds : List D} {f : D}, (∀ d ∈ ds, Th d) → Th f → Th (ds.foldl lo f)
  | [], f, _, h => h
  | d :: ds, f, h, hf => th_flo (ds := ds) (fun x hx => h x (by simp [evSs, evS, evE, evEs, evB, evC, evO, evP, evI, callD, argSl, argSls, bors, wb, frz, frzs, sees, R.see, lockS, unlockS, asgR, retR, setD, asgT, unlockO, backA, endF, nIf, nIfs, isAnd, truD, RD.r, binD, cmpD, biD, ixD, Mn.Loc, keyD, meD, recv, gtD, apD, ↓evS_fr, ↓evE_lc, ↓evE_srt, eq_ss, eq_ii, eq_is, eq_si, ok_b, ok_t, bt, tb, in_b, in_t, in_i, gd0, gd1, gd2, gd3, is_NoneType_int, is_NoneType_bool, is_NoneType_str, is_NoneType_list, is_NoneType_tuple, is_bool_int, is_bool_bool, is_bool_str, is_bool_list, is_bool_tuple, is_int_int, is_int_bool, is_int_str, is_int_list, is_int_tuple, is_str_int, is_str_bool, is_str_str, is_str_list, is_str_tuple, is_list_int, is_list_bool, is_list_str, is_list_list, is_list_tuple, is_tuple_int, is_tuple_bool, is_tuple_str, is_tuple_list, is_tuple_tuple, is_dict_int, is_dict_bool, is_dict_str, is_dict_list, is_dict_tuple, isiDs, L2.atI, L2.ixN, big, asgS_if, nl_un, nl_val, nl_own, hx])) (hf.lo (h d (by simp [evSs, evS, evE, evEs, evB, evC, evO, evP, evI, callD, argSl, argSls, bors, wb, frz, frzs, sees, R.see, lockS, unlockS, asgR, retR, setD, asgT, unlockO, backA, endF, nIf, nIfs, isAnd, truD, RD.r, binD, cmpD, biD, ixD, Mn.Loc, keyD, meD, recv, gtD, apD, ↓evS_fr, ↓evE_lc, ↓evE_srt, eq_ss, eq_ii, eq_is, eq_si, ok_b, ok_t, bt, tb, in_b, in_t, in_i, gd0, gd1, gd2, gd3, is_NoneType_int, is_NoneType_bool, is_NoneType_str, is_NoneType_list, is_NoneType_tuple, is_bool_int, is_bool_bool, is_bool_str, is_bool_list, is_bool_tuple, is_int_int, is_int_bool, is_int_str, is_int_list, is_int_tuple, is_str_int, is_str_bool, is_str_str, is_str_list, is_str_tuple, is_list_int, is_list_bool, is_list_str, is_list_list, is_list_tuple, is_tuple_int, is_tuple_bool, is_tuple_str, is_tuple_list, is_tuple_tuple, is_dict_int, is_dict_bool, is_dict_str, is_dict_list, is_dict_tuple, isiDs, L2.atI, L2.ixN, big, asgS_if, nl_un, nl_val, nl_own])))
theorem th_fhi : ∀ {ds : List D} {f : D}, (∀ d ∈ ds, Th d) → Th f → Th (ds.foldl hi f)
  | [], f, _, h => h
  | d :: ds, f, h, hf => th_fhi (ds := ds) (fun x hx => h x (by simp [evSs, evS, evE, evEs, evB, evC, evO, evP, evI, callD, argSl, argSls, bors, wb, frz, frzs, sees, R.see, lockS, unlockS, asgR, retR, setD, asgT, unlockO, backA, endF, nIf, nIfs, isAnd, truD, RD.r, binD, cmpD, biD, ixD, Mn.Loc, keyD, meD, recv, gtD, apD, ↓evS_fr, ↓evE_lc, ↓evE_srt, eq_ss, eq_ii, eq_is, eq_si, ok_b, ok_t, bt, tb, in_b, in_t, in_i, gd0, gd1, gd2, gd3, is_NoneType_int, is_NoneType_bool, is_NoneType_str, is_NoneType_list, is_NoneType_tuple, is_bool_int, is_bool_bool, is_bool_str, is_bool_list, is_bool_tuple, is_int_int, is_int_bool, is_int_str, is_int_list, is_int_tuple, is_str_int, is_str_bool, is_str_str, is_str_list, is_str_tuple, is_list_int, is_list_bool, is_list_str, is_list_list, is_list_tuple, is_tuple_int, is_tuple_bool, is_tuple_str, is_tuple_list, is_tuple_tuple, is_dict_int, is_dict_bool, is_dict_str, is_dict_list, is_dict_tuple, isiDs, L2.atI, L2.ixN, big, asgS_if, nl_un, nl_val, nl_own, hx])) (hf.hi (h d (by simp [evSs, evS, evE, evEs, evB, evC, evO, evP, evI, callD, argSl, argSls, bors, wb, frz, frzs, sees, R.see, lockS, unlockS, asgR, retR, setD, asgT, unlockO, backA, endF, nIf, nIfs, isAnd, truD, RD.r, binD, cmpD, biD, ixD, Mn.Loc, keyD, meD, recv, gtD, apD, ↓evS_fr, ↓evE_lc, ↓evE_srt, eq_ss, eq_ii, eq_is, eq_si, ok_b, ok_t, bt, tb, in_b, in_t, in_i, gd0, gd1, gd2, gd3, is_NoneType_int, is_NoneType_bool, is_NoneType_str, is_NoneType_list, is_NoneType_tuple, is_bool_int, is_bool_bool, is_bool_str, is_bool_list, is_bool_tuple, is_int_int, is_int_bool, is_int_str, is_int_list, is_int_tuple, is_str_int, is_str_bool, is_str_str, is_str_list, is_str_tuple, is_list_int, is_list_bool, is_list_str, is_list_list, is_list_tuple, is_tuple_int, is_tuple_bool, is_tuple_str, is_tuple_list, is_tuple_tuple, is_dict_int, is_dict_bool, is_dict_str, is_dict_list, is_dict_tuple, isiDs, L2.atI, L2.ixN, big, asgS_if, nl_un, nl_val, nl_own])))
theorem asInts_n : ∀ ds : List D, asInts (ds.map fun d => .int (num d)) = some (ds.map num)
  | [] => rfl
  | d :: ds => by simp [evSs, evS, evE, evEs, evB, evC, evO, evP, evI, callD, argSl, argSls, bors, wb, frz, frzs, sees, R.see, lockS, unlockS, asgR, retR, setD, asgT, unlockO, backA, endF, nIf, nIfs, isAnd, truD, RD.r, binD, cmpD, biD, ixD, Mn.Loc, keyD, meD, recv, gtD, apD, ↓evS_fr, ↓evE_lc, ↓evE_srt, eq_ss, eq_ii, eq_is, eq_si, ok_b, ok_t, bt, tb, in_b, in_t, in_i, gd0, gd1, gd2, gd3, is_NoneType_int, is_NoneType_bool, is_NoneType_str, is_NoneType_list, is_NoneType_tuple, is_bool_int, is_bool_bool, is_bool_str, is_bool_list, is_bool_tuple, is_int_int, is_int_bool, is_int_str, is_int_list, is_int_tuple, is_str_int, is_str_bool, is_str_str, is_str_list, is_str_tuple, is_list_int, is_list_bool, is_list_str, is_list_list, is_list_tuple, is_tuple_int, is_tuple_bool, is_tuple_str, is_tuple_list, is_tuple_tuple, is_dict_int, is_dict_bool, is_dict_str, is_dict_list, is_dict_tuple, isiDs, L2.atI, L2.ixN, big, asgS_if, nl_un, nl_val, nl_own, asInts, asInts_n ds]
theorem Th.eqk {d : D} (h : Th d) : d.eqOk = true ∧ d.py.canLay0 = true ∧ d.py.depth = 0 := by
  cases h with
  | bot => exact ⟨rfl, ok_b, rfl⟩
  | top => exact ⟨rfl, ok_t, rfl⟩
  | int i _ _ => exact ⟨rfl, rfl, rfl⟩
theorem ths_ok : ∀ {xs : List D}, (∀ d ∈ xs, Th d) → eqOks xs = true ∧ PyData.canLayAll0 (pys xs) = true ∧ PyData.depthAll (pys xs) = 0
  | [], _ => ⟨rfl, rfl, rfl⟩
  | x :: xs, h => by
    obtain ⟨a1, a2, a3⟩ := (h x (by simp [evSs, evS, evE, evEs, evB, evC, evO, evP, evI, callD, argSl, argSls, bors, wb, frz, frzs, sees, R.see, lockS, unlockS, asgR, retR, setD, asgT, unlockO, backA, endF, nIf, nIfs, isAnd, truD, RD.r, binD, cmpD, biD, ixD, Mn.Loc, keyD, meD, recv, gtD, apD, ↓evS_fr, ↓evE_lc, ↓evE_srt, eq_ss, eq_ii, eq_is, eq_si, ok_b, ok_t, bt, tb, in_b, in_t, in_i, gd0, gd1, gd2, gd3, is_NoneType_int, is_NoneType_bool, is_NoneType_str, is_NoneType_list, is_NoneType_tuple, is_bool_int, is_bool_bool, is_bool_str, is_bool_list, is_bool_tuple, is_int_int, is_int_bool, is_int_str, is_int_list, is_int_tuple, is_str_int, is_str_bool, is_str_str, is_str_list, is_str_tuple, is_list_int, is_list_bool, is_list_str, is_list_list, is_list_tuple, is_tuple_int, is_tuple_bool, is_tuple_str, is_tuple_list, is_tuple_tuple, is_dict_int, is_dict_bool, is_dict_str, is_dict_list, is_dict_tuple, isiDs, L2.atI, L2.ixN, big, asgS_if, nl_un, nl_val, nl_own])).eqk
    obtain ⟨h1, h2, h3⟩ := ths_ok (xs := xs) fun y hy => h y (by simp [evSs, evS, evE, evEs, evB, evC, evO, evP, evI, callD, argSl, argSls, bors, wb, frz, frzs, sees, R.see, lockS, unlockS, asgR, retR, setD, asgT, unlockO, backA, endF, nIf, nIfs, isAnd, truD, RD.r, binD, cmpD, biD, ixD, Mn.Loc, keyD, meD, recv, gtD, apD, ↓evS_fr, ↓evE_lc, ↓evE_srt, eq_ss, eq_ii, eq_is, eq_si, ok_b, ok_t, bt, tb, in_b, in_t, in_i, gd0, gd1, gd2, gd3, is_NoneType_int, is_NoneType_bool, is_NoneType_str, is_NoneType_list, is_NoneType_tuple, is_bool_int, is_bool_bool, is_bool_str, is_bool_list, is_bool_tuple, is_int_int, is_int_bool, is_int_str, is_int_list, is_int_tuple, is_str_int, is_str_bool, is_str_str, is_str_list, is_str_tuple, is_list_int, is_list_bool, is_list_str, is_list_list, is_list_tuple, is_tuple_int, is_tuple_bool, is_tuple_str, is_tuple_list, is_tuple_tuple, is_dict_int, is_dict_bool, is_dict_str, is_dict_list, is_dict_tuple, isiDs, L2.atI, L2.ixN, big, asgS_if, nl_un, nl_val, nl_own, hy])
    refine ⟨by simp [evSs, evS, evE, evEs, evB, evC, evO, evP, evI, callD, argSl, argSls, bors, wb, frz, frzs, sees, R.see, lockS, unlockS, asgR, retR, setD, asgT, unlockO, backA, endF, nIf, nIfs, isAnd, truD, RD.r, binD, cmpD, biD, ixD, Mn.Loc, keyD, meD, recv, gtD, apD, ↓evS_fr, ↓evE_lc, ↓evE_srt, eq_ss, eq_ii, eq_is, eq_si, ok_b, ok_t, bt, tb, in_b, in_t, in_i, gd0, gd1, gd2, gd3, is_NoneType_int, is_NoneType_bool, is_NoneType_str, is_NoneType_list, is_NoneType_tuple, is_bool_int, is_bool_bool, is_bool_str, is_bool_list, is_bool_tuple, is_int_int, is_int_bool, is_int_str, is_int_list, is_int_tuple, is_str_int, is_str_bool, is_str_str, is_str_list, is_str_tuple, is_list_int, is_list_bool, is_list_str, is_list_list, is_list_tuple, is_tuple_int, is_tuple_bool, is_tuple_str, is_tuple_list, is_tuple_tuple, is_dict_int, is_dict_bool, is_dict_str, is_dict_list, is_dict_tuple, isiDs, L2.atI, L2.ixN, big, asgS_if, nl_un, nl_val, nl_own, eqOks, a1, h1], by simp [evSs, evS, evE, evEs, evB, evC, evO, evP, evI, callD, argSl, argSls, bors, wb, frz, frzs, sees, R.see, lockS, unlockS, asgR, retR, setD, asgT, unlockO, backA, endF, nIf, nIfs, isAnd, truD, RD.r, binD, cmpD, biD, ixD, Mn.Loc, keyD, meD, recv, gtD, apD, ↓evS_fr, ↓evE_lc, ↓evE_srt, eq_ss, eq_ii, eq_is, eq_si, ok_b, ok_t, bt, tb, in_b, in_t, in_i, gd0, gd1, gd2, gd3, is_NoneType_int, is_NoneType_bool, is_NoneType_str, is_NoneType_list, is_NoneType_tuple, is_bool_int, is_bool_bool, is_bool_str, is_bool_list, is_bool_tuple, is_int_int, is_int_bool, is_int_str, is_int_list, is_int_tuple, is_str_int, is_str_bool, is_str_str, is_str_list, is_str_tuple, is_list_int, is_list_bool, is_list_str, is_list_list, is_list_tuple, is_tuple_int, is_tuple_bool, is_tuple_str, is_tuple_list, is_tuple_tuple, is_dict_int, is_dict_bool, is_dict_str, is_dict_list, is_dict_tuple, isiDs, L2.atI, L2.ixN, big, asgS_if, nl_un, nl_val, nl_own, pys, PyData.canLayAll0, a2, h2], by simp [evSs, evS, evE, evEs, evB, evC, evO, evP, evI, callD, argSl, argSls, bors, wb, frz, frzs, sees, R.see, lockS, unlockS, asgR, retR, setD, asgT, unlockO, backA, endF, nIf, nIfs, isAnd, truD, RD.r, binD, cmpD, biD, ixD, Mn.Loc, keyD, meD, recv, gtD, apD, ↓evS_fr, ↓evE_lc, ↓evE_srt, eq_ss, eq_ii, eq_is, eq_si, ok_b, ok_t, bt, tb, in_b, in_t, in_i, gd0, gd1, gd2, gd3, is_NoneType_int, is_NoneType_bool, is_NoneType_str, is_NoneType_list, is_NoneType_tuple, is_bool_int, is_bool_bool, is_bool_str, is_bool_list, is_bool_tuple, is_int_int, is_int_bool, is_int_str, is_int_list, is_int_tuple, is_str_int, is_str_bool, is_str_str, is_str_list, is_str_tuple, is_list_int, is_list_bool, is_list_str, is_list_list, is_list_tuple, is_tuple_int, is_tuple_bool, is_tuple_str, is_tuple_list, is_tuple_tuple, is_dict_int, is_dict_bool, is_dict_str, is_dict_list, is_dict_tuple, isiDs, L2.atI, L2.ixN, big, asgS_if, nl_un, nl_val, nl_own, pys, PyData.depthAll, a3, h3]⟩
theorem eq_nilT {xs : List D} (h : ∀ d ∈ xs, Th d) : eqD (.lst xs) (.lst []) = some (decide (xs = [])) := by
  obtain ⟨h1, h2, h3⟩ := ths_ok h
  have s : SeqAt.shaped (.list (pys xs)) = true := by simp [evSs, evS, evE, evEs, evB, evC, evO, evP, evI, callD, argSl, argSls, bors, wb, frz, frzs, sees, R.see, lockS, unlockS, asgR, retR, setD, asgT, unlockO, backA, endF, nIf, nIfs, isAnd, truD, RD.r, binD, cmpD, biD, ixD, Mn.Loc, keyD, meD, recv, gtD, apD, ↓evS_fr, ↓evE_lc, ↓evE_srt, eq_ss, eq_ii, eq_is, eq_si, ok_b, ok_t, bt, tb, in_b, in_t, in_i, gd0, gd1, gd2, gd3, is_NoneType_int, is_NoneType_bool, is_NoneType_str, is_NoneType_list, is_NoneType_tuple, is_bool_int, is_bool_bool, is_bool_str, is_bool_list, is_bool_tuple, is_int_int, is_int_bool, is_int_str, is_int_list, is_int_tuple, is_str_int, is_str_bool, is_str_str, is_str_list, is_str_tuple, is_list_int, is_list_bool, is_list_str, is_list_list, is_list_tuple, is_tuple_int, is_tuple_bool, is_tuple_str, is_tuple_list, is_tuple_tuple, is_dict_int, is_dict_bool, is_dict_str, is_dict_list, is_dict_tuple, isiDs, L2.atI, L2.ixN, big, asgS_if, nl_un, nl_val, nl_own, SeqAt.shaped, PyData.canLay0, PyData.depth, h2, h3]
  have s0 : SeqAt.shaped (.list (pys [])) = true := rfl
  have e1 : D.eqOk (.lst []) = true := rfl
  simp only [eqD, D.py, e1, s0, s]
  simp only [D.eqOk, h1]
  cases xs with
  | nil => simp [evSs, evS, evE, evEs, evB, evC, evO, evP, evI, callD, argSl, argSls, bors, wb, frz, frzs, sees, R.see, lockS, unlockS, asgR, retR, setD, asgT, unlockO, backA, endF, nIf, nIfs, isAnd, truD, RD.r, binD, cmpD, biD, ixD, Mn.Loc, keyD, meD, recv, gtD, apD, ↓evS_fr, ↓evE_lc, ↓evE_srt, eq_ss, eq_ii, eq_is, eq_si, ok_b, ok_t, bt, tb, in_b, in_t, in_i, gd0, gd1, gd2, gd3, is_NoneType_int, is_NoneType_bool, is_NoneType_str, is_NoneType_list, is_NoneType_tuple, is_bool_int, is_bool_bool, is_bool_str, is_bool_list, is_bool_tuple, is_int_int, is_int_bool, is_int_str, is_int_list, is_int_tuple, is_str_int, is_str_bool, is_str_str, is_str_list, is_str_tuple, is_list_int, is_list_bool, is_list_str, is_list_list, is_list_tuple, is_tuple_int, is_tuple_bool, is_tuple_str, is_tuple_list, is_tuple_tuple, is_dict_int, is_dict_bool, is_dict_str, is_dict_list, is_dict_tuple, isiDs, L2.atI, L2.ixN, big, asgS_if, nl_un, nl_val, nl_own, PyData.eqv, pys, PyData.eqvAll]
  | cons x xs => simp [evSs, evS, evE, evEs, evB, evC, evO, evP, evI, callD, argSl, argSls, bors, wb, frz, frzs, sees, R.see, lockS, unlockS, asgR, retR, setD, asgT, unlockO, backA, endF, nIf, nIfs, isAnd, truD, RD.r, binD, cmpD, biD, ixD, Mn.Loc, keyD, meD, recv, gtD, apD, ↓evS_fr, ↓evE_lc, ↓evE_srt, eq_ss, eq_ii, eq_is, eq_si, ok_b, ok_t, bt, tb, in_b, in_t, in_i, gd0, gd1, gd2, gd3, is_NoneType_int, is_NoneType_bool, is_NoneType_str, is_NoneType_list, is_NoneType_tuple, is_bool_int, is_bool_bool, is_bool_str, is_bool_list, is_bool_tuple, is_int_int, is_int_bool, is_int_str, is_int_list, is_int_tuple, is_str_int, is_str_bool, is_str_str, is_str_list, is_str_tuple, is_list_int, is_list_bool, is_list_str, is_list_list, is_list_tuple, is_tuple_int, is_tuple_bool, is_tuple_str, is_tuple_list, is_tuple_tuple, is_dict_int, is_dict_bool, is_dict_str, is_dict_list, is_dict_tuple, isiDs, L2.atI, L2.ixN, big, asgS_if, nl_un, nl_val, nl_own, PyData.eqv, pys, PyData.eqvAll]
theorem sh2 {a b : D} (ha : Th a) (hb : Th b) : Sh 600 1 (.lst [a, b]) := by
  refine (Sh.lst (n := 70) (m := 0) fun d hd => ?_).mono (by simp [evSs, evS, evE, evEs, evB, evC, evO, evP, evI, callD, argSl, argSls, bors, wb, frz, frzs, sees, R.see, lockS, unlockS, asgR, retR, setD, asgT, unlockO, backA, endF, nIf, nIfs, isAnd, truD, RD.r, binD, cmpD, biD, ixD, Mn.Loc, keyD, meD, recv, gtD, apD, ↓evS_fr, ↓evE_lc, ↓evE_srt, eq_ss, eq_ii, eq_is, eq_si, ok_b, ok_t, bt, tb, in_b, in_t, in_i, gd0, gd1, gd2, gd3, is_NoneType_int, is_NoneType_bool, is_NoneType_str, is_NoneType_list, is_NoneType_tuple, is_bool_int, is_bool_bool, is_bool_str, is_bool_list, is_bool_tuple, is_int_int, is_int_bool, is_int_str, is_int_list, is_int_tuple, is_str_int, is_str_bool, is_str_str, is_str_list, is_str_tuple, is_list_int, is_list_bool, is_list_str, is_list_list, is_list_tuple, is_tuple_int, is_tuple_bool, is_tuple_str, is_tuple_list, is_tuple_tuple, is_dict_int, is_dict_bool, is_dict_str, is_dict_list, is_dict_tuple, isiDs, L2.atI, L2.ixN, big, asgS_if, nl_un, nl_val, nl_own]) (by simp [evSs, evS, evE, evEs, evB, evC, evO, evP, evI, callD, argSl, argSls, bors, wb, frz, frzs, sees, R.see, lockS, unlockS, asgR, retR, setD, asgT, unlockO, backA, endF, nIf, nIfs, isAnd, truD, RD.r, binD, cmpD, biD, ixD, Mn.Loc, keyD, meD, recv, gtD, apD, ↓evS_fr, ↓evE_lc, ↓evE_srt, eq_ss, eq_ii, eq_is, eq_si, ok_b, ok_t, bt, tb, in_b, in_t, in_i, gd0, gd1, gd2, gd3, is_NoneType_int, is_NoneType_bool, is_NoneType_str, is_NoneType_list, is_NoneType_tuple, is_bool_int, is_bool_bool, is_bool_str, is_bool_list, is_bool_tuple, is_int_int, is_int_bool, is_int_str, is_int_list, is_int_tuple, is_str_int, is_str_bool, is_str_str, is_str_list, is_str_tuple, is_list_int, is_list_bool, is_list_str, is_list_list, is_list_tuple, is_tuple_int, is_tuple_bool, is_tuple_str, is_tuple_list, is_tuple_tuple, is_dict_int, is_dict_bool, is_dict_str, is_dict_list, is_dict_tuple, isiDs, L2.atI, L2.ixN, big, asgS_if, nl_un, nl_val, nl_own])
  simp [evSs, evS, evE, evEs, evB, evC, evO, evP, evI, callD, argSl, argSls, bors, wb, frz, frzs, sees, R.see, lockS, unlockS, asgR, retR, setD, asgT, unlockO, backA, endF, nIf, nIfs, isAnd, truD, RD.r, binD, cmpD, biD, ixD, Mn.Loc, keyD, meD, recv, gtD, apD, ↓evS_fr, ↓evE_lc, ↓evE_srt, eq_ss, eq_ii, eq_is, eq_si, ok_b, ok_t, bt, tb, in_b, in_t, in_i, gd0, gd1, gd2, gd3, is_NoneType_int, is_NoneType_bool, is_NoneType_str, is_NoneType_list, is_NoneType_tuple, is_bool_int, is_bool_bool, is_bool_str, is_bool_list, is_bool_tuple, is_int_int, is_int_bool, is_int_str, is_int_list, is_int_tuple, is_str_int, is_str_bool, is_str_str, is_str_list, is_str_tuple, is_list_int, is_list_bool, is_list_str, is_list_list, is_list_tuple, is_tuple_int, is_tuple_bool, is_tuple_str, is_tuple_list, is_tuple_tuple, is_dict_int, is_dict_bool, is_dict_str, is_dict_list, is_dict_tuple, isiDs, L2.atI, L2.ixN, big, asgS_if, nl_un, nl_val, nl_own] at hd
  rcases hd with rfl | rfl
  · exact ha.sh
  · exact hb.sh
theorem extremes_right (k : Nat) {ds : List D} (h : ∀ d ∈ ds, Th d) (l : ds.length ≤ 4) : rn (k+6) 28 [.own ds] = some (.ret (.val (.bl true)) [.own ds]) := by
  have x0 := extreme0 k h l
  have x1 := extreme1 k h l
  have t0 : Th (ds.foldl lo sT) := th_flo h .top
  have t1 : Th (ds.foldl hi sB) := th_fhi h .bot
  have s0 := shown (k+4) t0
  have s1 := shown (k+4) t1
  have sh := sh2 t0 t1
  have sh1 := sh.shd (by decide) (by decide)
  simp [evSs, evS, evE, evEs, evB, evC, evO, evP, evI, callD, argSl, argSls, bors, wb, frz, frzs, sees, R.see, lockS, unlockS, asgR, retR, setD, asgT, unlockO, backA, endF, nIf, nIfs, isAnd, truD, RD.r, binD, cmpD, biD, ixD, Mn.Loc, keyD, meD, recv, gtD, apD, ↓evS_fr, ↓evE_lc, ↓evE_srt, eq_ss, eq_ii, eq_is, eq_si, ok_b, ok_t, bt, tb, in_b, in_t, in_i, gd0, gd1, gd2, gd3, is_NoneType_int, is_NoneType_bool, is_NoneType_str, is_NoneType_list, is_NoneType_tuple, is_bool_int, is_bool_bool, is_bool_str, is_bool_list, is_bool_tuple, is_int_int, is_int_bool, is_int_str, is_int_list, is_int_tuple, is_str_int, is_str_bool, is_str_str, is_str_list, is_str_tuple, is_list_int, is_list_bool, is_list_str, is_list_list, is_list_tuple, is_tuple_int, is_tuple_bool, is_tuple_str, is_tuple_list, is_tuple_tuple, is_dict_int, is_dict_bool, is_dict_str, is_dict_list, is_dict_tuple, isiDs, L2.atI, L2.ixN, big, asgS_if, nl_un, nl_val, nl_own, fn28, b39]
  rw [lc_map (fun d => .int (num d)) (ds.map fun d => .int (num d)) .un rfl rfl (fun d hd => by simp [evSs, evS, evE, evEs, evB, evC, evO, evP, evI, callD, argSl, argSls, bors, wb, frz, frzs, sees, R.see, lockS, unlockS, asgR, retR, setD, asgT, unlockO, backA, endF, nIf, nIfs, isAnd, truD, RD.r, binD, cmpD, biD, ixD, Mn.Loc, keyD, meD, recv, gtD, apD, ↓evS_fr, ↓evE_lc, ↓evE_srt, eq_ss, eq_ii, eq_is, eq_si, ok_b, ok_t, bt, tb, in_b, in_t, in_i, gd0, gd1, gd2, gd3, is_NoneType_int, is_NoneType_bool, is_NoneType_str, is_NoneType_list, is_NoneType_tuple, is_bool_int, is_bool_bool, is_bool_str, is_bool_list, is_bool_tuple, is_int_int, is_int_bool, is_int_str, is_int_list, is_int_tuple, is_str_int, is_str_bool, is_str_str, is_str_list, is_str_tuple, is_list_int, is_list_bool, is_list_str, is_list_list, is_list_tuple, is_tuple_int, is_tuple_bool, is_tuple_str, is_tuple_list, is_tuple_tuple, is_dict_int, is_dict_bool, is_dict_str, is_dict_list, is_dict_tuple, isiDs, L2.atI, L2.ixN, big, asgS_if, nl_un, nl_val, nl_own, lpC]) (fun d hd => by simp [evSs, evS, evE, evEs, evB, evC, evO, evP, evI, callD, argSl, argSls, bors, wb, frz, frzs, sees, R.see, lockS, unlockS, asgR, retR, setD, asgT, unlockO, backA, endF, nIf, nIfs, isAnd, truD, RD.r, binD, cmpD, biD, ixD, Mn.Loc, keyD, meD, recv, gtD, apD, ↓evS_fr, ↓evE_lc, ↓evE_srt, eq_ss, eq_ii, eq_is, eq_si, ok_b, ok_t, bt, tb, in_b, in_t, in_i, gd0, gd1, gd2, gd3, is_NoneType_int, is_NoneType_bool, is_NoneType_str, is_NoneType_list, is_NoneType_tuple, is_bool_int, is_bool_bool, is_bool_str, is_bool_list, is_bool_tuple, is_int_int, is_int_bool, is_int_str, is_int_list, is_int_tuple, is_str_int, is_str_bool, is_str_str, is_str_list, is_str_tuple, is_list_int, is_list_bool, is_list_str, is_list_list, is_list_tuple, is_tuple_int, is_tuple_bool, is_tuple_str, is_tuple_list, is_tuple_tuple, is_dict_int, is_dict_bool, is_dict_str, is_dict_list, is_dict_tuple, isiDs, L2.atI, L2.ixN, big, asgS_if, nl_un, nl_val, nl_own, lpE, number (k+4) (h d hd)]) (by omega)]
  cases ds with
  | nil =>
    simp [evSs, evS, evE, evEs, evB, evC, evO, evP, evI, callD, argSl, argSls, bors, wb, frz, frzs, sees, R.see, lockS, unlockS, asgR, retR, setD, asgT, unlockO, backA, endF, nIf, nIfs, isAnd, truD, RD.r, binD, cmpD, biD, ixD, Mn.Loc, keyD, meD, recv, gtD, apD, ↓evS_fr, ↓evE_lc, ↓evE_srt, eq_ss, eq_ii, eq_is, eq_si, ok_b, ok_t, bt, tb, in_b, in_t, in_i, gd0, gd1, gd2, gd3, is_NoneType_int, is_NoneType_bool, is_NoneType_str, is_NoneType_list, is_NoneType_tuple, is_bool_int, is_bool_bool, is_bool_str, is_bool_list, is_bool_tuple, is_int_int, is_int_bool, is_int_str, is_int_list, is_int_tuple, is_str_int, is_str_bool, is_str_str, is_str_list, is_str_tuple, is_list_int, is_list_bool, is_list_str, is_list_list, is_list_tuple, is_tuple_int, is_tuple_bool, is_tuple_str, is_tuple_list, is_tuple_tuple, is_dict_int, is_dict_bool, is_dict_str, is_dict_list, is_dict_tuple, isiDs, L2.atI, L2.ixN, big, asgS_if, nl_un, nl_val, nl_own] at x0 x1 sh1 sh
    simp [evSs, evS, evE, evEs, evB, evC, evO, evP, evI, callD, argSl, argSls, bors, wb, frz, frzs, sees, R.see, lockS, unlockS, asgR, retR, setD, asgT, unlockO, backA, endF, nIf, nIfs, isAnd, truD, RD.r, binD, cmpD, biD, ixD, Mn.Loc, keyD, meD, recv, gtD, apD, ↓evS_fr, ↓evE_lc, ↓evE_srt, eq_ss, eq_ii, eq_is, eq_si, ok_b, ok_t, bt, tb, in_b, in_t, in_i, gd0, gd1, gd2, gd3, is_NoneType_int, is_NoneType_bool, is_NoneType_str, is_NoneType_list, is_NoneType_tuple, is_bool_int, is_bool_bool, is_bool_str, is_bool_list, is_bool_tuple, is_int_int, is_int_bool, is_int_str, is_int_list, is_int_tuple, is_str_int, is_str_bool, is_str_str, is_str_list, is_str_tuple, is_list_int, is_list_bool, is_list_str, is_list_list, is_list_tuple, is_tuple_int, is_tuple_bool, is_tuple_str, is_tuple_list, is_tuple_tuple, is_dict_int, is_dict_bool, is_dict_str, is_dict_list, is_dict_tuple, isiDs, L2.atI, L2.ixN, big, asgS_if, nl_un, nl_val, nl_own, eq_nilT h, x0, x1, sh1, sh.so]
  | cons d ds =>
    have hd := h d (by simp [evSs, evS, evE, evEs, evB, evC, evO, evP, evI, callD, argSl, argSls, bors, wb, frz, frzs, sees, R.see, lockS, unlockS, asgR, retR, setD, asgT, unlockO, backA, endF, nIf, nIfs, isAnd, truD, RD.r, binD, cmpD, biD, ixD, Mn.Loc, keyD, meD, recv, gtD, apD, ↓evS_fr, ↓evE_lc, ↓evE_srt, eq_ss, eq_ii, eq_is, eq_si, ok_b, ok_t, bt, tb, in_b, in_t, in_i, gd0, gd1, gd2, gd3, is_NoneType_int, is_NoneType_bool, is_NoneType_str, is_NoneType_list, is_NoneType_tuple, is_bool_int, is_bool_bool, is_bool_str, is_bool_list, is_bool_tuple, is_int_int, is_int_bool, is_int_str, is_int_list, is_int_tuple, is_str_int, is_str_bool, is_str_str, is_str_list, is_str_tuple, is_list_int, is_list_bool, is_list_str, is_list_list, is_list_tuple, is_tuple_int, is_tuple_bool, is_tuple_str, is_tuple_list, is_tuple_tuple, is_dict_int, is_dict_bool, is_dict_str, is_dict_list, is_dict_tuple, isiDs, L2.atI, L2.ixN, big, asgS_if, nl_un, nl_val, nl_own])
    have m0 := low_num (ds := ds) hd
    have m1 := high_num (ds := ds) hd
    rw [← m0] at s0
    rw [← m1] at s1
    generalize hA : (d :: ds).foldl lo sT = A at *
    generalize hB : (d :: ds).foldl hi sB = B at *
    simp [evSs, evS, evE, evEs, evB, evC, evO, evP, evI, callD, argSl, argSls, bors, wb, frz, frzs, sees, R.see, lockS, unlockS, asgR, retR, setD, asgT, unlockO, backA, endF, nIf, nIfs, isAnd, truD, RD.r, binD, cmpD, biD, ixD, Mn.Loc, keyD, meD, recv, gtD, apD, ↓evS_fr, ↓evE_lc, ↓evE_srt, eq_ss, eq_ii, eq_is, eq_si, ok_b, ok_t, bt, tb, in_b, in_t, in_i, gd0, gd1, gd2, gd3, is_NoneType_int, is_NoneType_bool, is_NoneType_str, is_NoneType_list, is_NoneType_tuple, is_bool_int, is_bool_bool, is_bool_str, is_bool_list, is_bool_tuple, is_int_int, is_int_bool, is_int_str, is_int_list, is_int_tuple, is_str_int, is_str_bool, is_str_str, is_str_list, is_str_tuple, is_list_int, is_list_bool, is_list_str, is_list_list, is_list_tuple, is_tuple_int, is_tuple_bool, is_tuple_str, is_tuple_list, is_tuple_tuple, is_dict_int, is_dict_bool, is_dict_str, is_dict_list, is_dict_tuple, isiDs, L2.atI, L2.ixN, big, asgS_if, nl_un, nl_val, nl_own, eq_nilT h, asInts, asInts_n, s0, s1, x0, x1, sh1, sh.so]
theorem eight (k : Nat) (p : Pot) : ∃ p' : Pot, rn (k+5) 29 [.own p.w] = some (.ret (.val (.bl true)) [.own p'.w]) := by
  obtain ⟨ds, h, l, p', e⟩ := things k p (n := 8) (by decide) (by decide)
  refine ⟨p', ?_⟩
  have l8 : ds.length = 8 := l
  have hT : ∀ d ∈ ds, Th d := fun d hd => (h d hd).th
  have x0 := lesser k (ds := ds) (by show _ ≤ 1000000; omega) hT
  have x1 := greater k (ds := ds) (by show _ ≤ 1000000; omega) hT
  have t0 : Th (ds.foldl lo sT) := th_flo hT .top
  have t1 : Th (ds.foldl hi sB) := th_fhi hT .bot
  have s0 := shown (k+3) t0
  have s1 := shown (k+3) t1
  have sh := sh2 t0 t1
  have sh1 := sh.shd (by decide) (by decide)
  simp [evSs, evS, evE, evEs, evB, evC, evO, evP, evI, callD, argSl, argSls, bors, wb, frz, frzs, sees, R.see, lockS, unlockS, asgR, retR, setD, asgT, unlockO, backA, endF, nIf, nIfs, isAnd, truD, RD.r, binD, cmpD, biD, ixD, Mn.Loc, keyD, meD, recv, gtD, apD, ↓evS_fr, ↓evE_lc, ↓evE_srt, eq_ss, eq_ii, eq_is, eq_si, ok_b, ok_t, bt, tb, in_b, in_t, in_i, gd0, gd1, gd2, gd3, is_NoneType_int, is_NoneType_bool, is_NoneType_str, is_NoneType_list, is_NoneType_tuple, is_bool_int, is_bool_bool, is_bool_str, is_bool_list, is_bool_tuple, is_int_int, is_int_bool, is_int_str, is_int_list, is_int_tuple, is_str_int, is_str_bool, is_str_str, is_str_list, is_str_tuple, is_list_int, is_list_bool, is_list_str, is_list_list, is_list_tuple, is_tuple_int, is_tuple_bool, is_tuple_str, is_tuple_list, is_tuple_tuple, is_dict_int, is_dict_bool, is_dict_str, is_dict_list, is_dict_tuple, isiDs, L2.atI, L2.ixN, big, asgS_if, nl_un, nl_val, nl_own, fn29, b40, e]
  rw [lc_map (fun d => .int (num d)) (ds.map fun d => .int (num d)) .un rfl rfl (fun d hd => by simp [evSs, evS, evE, evEs, evB, evC, evO, evP, evI, callD, argSl, argSls, bors, wb, frz, frzs, sees, R.see, lockS, unlockS, asgR, retR, setD, asgT, unlockO, backA, endF, nIf, nIfs, isAnd, truD, RD.r, binD, cmpD, biD, ixD, Mn.Loc, keyD, meD, recv, gtD, apD, ↓evS_fr, ↓evE_lc, ↓evE_srt, eq_ss, eq_ii, eq_is, eq_si, ok_b, ok_t, bt, tb, in_b, in_t, in_i, gd0, gd1, gd2, gd3, is_NoneType_int, is_NoneType_bool, is_NoneType_str, is_NoneType_list, is_NoneType_tuple, is_bool_int, is_bool_bool, is_bool_str, is_bool_list, is_bool_tuple, is_int_int, is_int_bool, is_int_str, is_int_list, is_int_tuple, is_str_int, is_str_bool, is_str_str, is_str_list, is_str_tuple, is_list_int, is_list_bool, is_list_str, is_list_list, is_list_tuple, is_tuple_int, is_tuple_bool, is_tuple_str, is_tuple_list, is_tuple_tuple, is_dict_int, is_dict_bool, is_dict_str, is_dict_list, is_dict_tuple, isiDs, L2.atI, L2.ixN, big, asgS_if, nl_un, nl_val, nl_own, lpC]) (fun d hd => by simp [evSs, evS, evE, evEs, evB, evC, evO, evP, evI, callD, argSl, argSls, bors, wb, frz, frzs, sees, R.see, lockS, unlockS, asgR, retR, setD, asgT, unlockO, backA, endF, nIf, nIfs, isAnd, truD, RD.r, binD, cmpD, biD, ixD, Mn.Loc, keyD, meD, recv, gtD, apD, ↓evS_fr, ↓evE_lc, ↓evE_srt, eq_ss, eq_ii, eq_is, eq_si, ok_b, ok_t, bt, tb, in_b, in_t, in_i, gd0, gd1, gd2, gd3, is_NoneType_int, is_NoneType_bool, is_NoneType_str, is_NoneType_list, is_NoneType_tuple, is_bool_int, is_bool_bool, is_bool_str, is_bool_list, is_bool_tuple, is_int_int, is_int_bool, is_int_str, is_int_list, is_int_tuple, is_str_int, is_str_bool, is_str_str, is_str_list, is_str_tuple, is_list_int, is_list_bool, is_list_str, is_list_list, is_list_tuple, is_tuple_int, is_tuple_bool, is_tuple_str, is_tuple_list, is_tuple_tuple, is_dict_int, is_dict_bool, is_dict_str, is_dict_list, is_dict_tuple, isiDs, L2.atI, L2.ixN, big, asgS_if, nl_un, nl_val, nl_own, lpE, number (k+3) (hT d hd)]) (by omega)]
  match ds, l8 with
  | [a0, a1, a2, a3, a4, a5, a6, a7], _ =>
    have hd := hT a0 (by simp [evSs, evS, evE, evEs, evB, evC, evO, evP, evI, callD, argSl, argSls, bors, wb, frz, frzs, sees, R.see, lockS, unlockS, asgR, retR, setD, asgT, unlockO, backA, endF, nIf, nIfs, isAnd, truD, RD.r, binD, cmpD, biD, ixD, Mn.Loc, keyD, meD, recv, gtD, apD, ↓evS_fr, ↓evE_lc, ↓evE_srt, eq_ss, eq_ii, eq_is, eq_si, ok_b, ok_t, bt, tb, in_b, in_t, in_i, gd0, gd1, gd2, gd3, is_NoneType_int, is_NoneType_bool, is_NoneType_str, is_NoneType_list, is_NoneType_tuple, is_bool_int, is_bool_bool, is_bool_str, is_bool_list, is_bool_tuple, is_int_int, is_int_bool, is_int_str, is_int_list, is_int_tuple, is_str_int, is_str_bool, is_str_str, is_str_list, is_str_tuple, is_list_int, is_list_bool, is_list_str, is_list_list, is_list_tuple, is_tuple_int, is_tuple_bool, is_tuple_str, is_tuple_list, is_tuple_tuple, is_dict_int, is_dict_bool, is_dict_str, is_dict_list, is_dict_tuple, isiDs, L2.atI, L2.ixN, big, asgS_if, nl_un, nl_val, nl_own])
    have m0 := low_num (ds := [a1, a2, a3, a4, a5, a6, a7]) hd
    have m1 := high_num (ds := [a1, a2, a3, a4, a5, a6, a7]) hd
    rw [← m0] at s0
    rw [← m1] at s1
    generalize hA : [a0, a1, a2, a3, a4, a5, a6, a7].foldl lo sT = A at *
    generalize hB : [a0, a1, a2, a3, a4, a5, a6, a7].foldl hi sB = B at *
    simp [evSs, evS, evE, evEs, evB, evC, evO, evP, evI, callD, argSl, argSls, bors, wb, frz, frzs, sees, R.see, lockS, unlockS, asgR, retR, setD, asgT, unlockO, backA, endF, nIf, nIfs, isAnd, truD, RD.r, binD, cmpD, biD, ixD, Mn.Loc, keyD, meD, recv, gtD, apD, ↓evS_fr, ↓evE_lc, ↓evE_srt, eq_ss, eq_ii, eq_is, eq_si, ok_b, ok_t, bt, tb, in_b, in_t, in_i, gd0, gd1, gd2, gd3, is_NoneType_int, is_NoneType_bool, is_NoneType_str, is_NoneType_list, is_NoneType_tuple, is_bool_int, is_bool_bool, is_bool_str, is_bool_list, is_bool_tuple, is_int_int, is_int_bool, is_int_str, is_int_list, is_int_tuple, is_str_int, is_str_bool, is_str_str, is_str_list, is_str_tuple, is_list_int, is_list_bool, is_list_str, is_list_list, is_list_tuple, is_tuple_int, is_tuple_bool, is_tuple_str, is_tuple_list, is_tuple_tuple, is_dict_int, is_dict_bool, is_dict_str, is_dict_list, is_dict_tuple, isiDs, L2.atI, L2.ixN, big, asgS_if, nl_un, nl_val, nl_own] at s0 s1 x0 x1
    simp [evSs, evS, evE, evEs, evB, evC, evO, evP, evI, callD, argSl, argSls, bors, wb, frz, frzs, sees, R.see, lockS, unlockS, asgR, retR, setD, asgT, unlockO, backA, endF, nIf, nIfs, isAnd, truD, RD.r, binD, cmpD, biD, ixD, Mn.Loc, keyD, meD, recv, gtD, apD, ↓evS_fr, ↓evE_lc, ↓evE_srt, eq_ss, eq_ii, eq_is, eq_si, ok_b, ok_t, bt, tb, in_b, in_t, in_i, gd0, gd1, gd2, gd3, is_NoneType_int, is_NoneType_bool, is_NoneType_str, is_NoneType_list, is_NoneType_tuple, is_bool_int, is_bool_bool, is_bool_str, is_bool_list, is_bool_tuple, is_int_int, is_int_bool, is_int_str, is_int_list, is_int_tuple, is_str_int, is_str_bool, is_str_str, is_str_list, is_str_tuple, is_list_int, is_list_bool, is_list_str, is_list_list, is_list_tuple, is_tuple_int, is_tuple_bool, is_tuple_str, is_tuple_list, is_tuple_tuple, is_dict_int, is_dict_bool, is_dict_str, is_dict_list, is_dict_tuple, isiDs, L2.atI, L2.ixN, big, asgS_if, nl_un, nl_val, nl_own, asInts, s0, s1, x0, x1, sh1, sh.so]
end K11

-- P11l
set_option Elab.async false
set_option linter.all false
set_option maxRecDepth 100000
set_option maxHeartbeats 4000000
set_option autoImplicit false
namespace K11
open PySem Mn
theorem cut_to (xs : List D) {z : Int} (h : 0 ≤ z) : cutD xs none (some z) = xs.take z.toNat := by
  unfold cutD
  rw [show HT.sIx xs.length 0 none = 0 from rfl, show HT.sIx xs.length xs.length (some z) = min z.toNat xs.length from if_neg (by omega), List.drop_zero, Nat.sub_zero]
  by_cases q : z.toNat ≤ xs.length
  · rw [Nat.min_eq_left q]
  · rw [Nat.min_eq_right (by omega), List.take_of_length_le (by omega), List.take_of_length_le (by omega)]
theorem tf0 (d : D) (δ : List Sl) : tf (.exc 0 d δ) = (shD (.lst [.str "value", d, .bl true])).map fun x => .ok (.val x) δ := rfl
theorem tf1 (d : D) (δ : List Sl) : tf (.exc 1 d δ) = (shD (.lst [.str "values", d, .bl true])).map fun x => .ok (.val x) δ := rfl
theorem tf2 (d : D) (δ : List Sl) : tf (.exc 2 d δ) = (shD (.lst [.str "integer", d, .bl true])).map fun x => .ok (.val x) δ := rfl
theorem sh_tag : ∀ t ∈ ([ "value", "values", "integer"] : List Str), Sh 70 0 (.str t) := by
  have q : ∀ t ∈ ([ "value", "values", "integer"] : List Str), (D.str t).shOk = true ∧ (D.str t).py.showable = true ∧ (D.str t).py.shown.length ≤ 70 ∧ (D.str t).py.depth ≤ 0 ∧ PyData.strOk (D.str t).py.shown = true := by decide +kernel
  intro t ht
  obtain ⟨h1, h2, h3, h4, h5⟩ := q t ht
  exact ⟨h1, h2, h3, h4, h5⟩
theorem sh3 {t : Str} (ht : t ∈ ([ "value", "values", "integer"] : List Str)) {d : D} (h : Sh 2000 6 d) : Sh 7000 7 (.lst [.str t, d, .bl true]) := by
  refine (Sh.lst (n := 2000) (m := 6) fun x hx => ?_).mono (by simp [evSs, evS, evE, evEs, evB, evC, evO, evP, evI, callD, argSl, argSls, bors, wb, frz, frzs, sees, R.see, lockS, unlockS, asgR, retR, setD, asgT, unlockO, backA, endF, nIf, nIfs, isAnd, truD, RD.r, binD, cmpD, biD, ixD, Mn.Loc, keyD, meD, recv, gtD, apD, ↓evS_fr, ↓evE_lc, ↓evE_srt, eq_ss, eq_ii, eq_is, eq_si, ok_b, ok_t, bt, tb, in_b, in_t, in_i, gd0, gd1, gd2, gd3, is_NoneType_int, is_NoneType_bool, is_NoneType_str, is_NoneType_list, is_NoneType_tuple, is_bool_int, is_bool_bool, is_bool_str, is_bool_list, is_bool_tuple, is_int_int, is_int_bool, is_int_str, is_int_list, is_int_tuple, is_str_int, is_str_bool, is_str_str, is_str_list, is_str_tuple, is_list_int, is_list_bool, is_list_str, is_list_list, is_list_tuple, is_tuple_int, is_tuple_bool, is_tuple_str, is_tuple_list, is_tuple_tuple, is_dict_int, is_dict_bool, is_dict_str, is_dict_list, is_dict_tuple, isiDs, L2.atI, L2.ixN, big, asgS_if, nl_un, nl_val, nl_own, inD1, slD]) (by simp [evSs, evS, evE, evEs, evB, evC, evO, evP, evI, callD, argSl, argSls, bors, wb, frz, frzs, sees, R.see, lockS, unlockS, asgR, retR, setD, asgT, unlockO, backA, endF, nIf, nIfs, isAnd, truD, RD.r, binD, cmpD, biD, ixD, Mn.Loc, keyD, meD, recv, gtD, apD, ↓evS_fr, ↓evE_lc, ↓evE_srt, eq_ss, eq_ii, eq_is, eq_si, ok_b, ok_t, bt, tb, in_b, in_t, in_i, gd0, gd1, gd2, gd3, is_NoneType_int, is_NoneType_bool, is_NoneType_str, is_NoneType_list, is_NoneType_tuple, is_bool_int, is_bool_bool, is_bool_str, is_bool_list, is_bool_tuple, is_int_int, is_int_bool, is_int_str, is_int_list, is_int_tuple, is_str_int, is_str_bool, is_str_str, is_str_list, is_str_tuple, is_list_int, is_list_bool, is_list_str, is_list_list, is_list_tuple, is_tuple_int, is_tuple_bool, is_tuple_str, is_tuple_list, is_tuple_tuple, is_dict_int, is_dict_bool, is_dict_str, is_dict_list, is_dict_tuple, isiDs, L2.atI, L2.ixN, big, asgS_if, nl_un, nl_val, nl_own, inD1, slD])
  simp [evSs, evS, evE, evEs, evB, evC, evO, evP, evI, callD, argSl, argSls, bors, wb, frz, frzs, sees, R.see, lockS, unlockS, asgR, retR, setD, asgT, unlockO, backA, endF, nIf, nIfs, isAnd, truD, RD.r, binD, cmpD, biD, ixD, Mn.Loc, keyD, meD, recv, gtD, apD, ↓evS_fr, ↓evE_lc, ↓evE_srt, eq_ss, eq_ii, eq_is, eq_si, ok_b, ok_t, bt, tb, in_b, in_t, in_i, gd0, gd1, gd2, gd3, is_NoneType_int, is_NoneType_bool, is_NoneType_str, is_NoneType_list, is_NoneType_tuple, is_bool_int, is_bool_bool, is_bool_str, is_bool_list, is_bool_tuple, is_int_int, is_int_bool, is_int_str, is_int_list, is_int_tuple, is_str_int, is_str_bool, is_str_str, is_str_list, is_str_tuple, is_list_int, is_list_bool, is_list_str, is_list_list, is_list_tuple, is_tuple_int, is_tuple_bool, is_tuple_str, is_tuple_list, is_tuple_tuple, is_dict_int, is_dict_bool, is_dict_str, is_dict_list, is_dict_tuple, isiDs, L2.atI, L2.ixN, big, asgS_if, nl_un, nl_val, nl_own, inD1, slD] at hx
  rcases hx with rfl | rfl | rfl
  · exact (sh_tag _ ht).mono (by omega) (by omega)
  · exact h
  · exact (bl_sh true).mono (by omega) (by omega)
theorem shd_f : shD (.bl false) = some (.str "False") := (bl_sh false).shd (by decide) (by decide)
theorem ok_f : PyData.strOk "False" = true := by decide +kernel
theorem eq3 {s : Str} (h : PyData.strOk s = true) : eqD (.lst [.str s, .str s, .str s]) (.lst [.str s, .str s, .str s]) = some true := by
  have a : SeqAt.shaped (D.py (.lst [.str s, .str s, .str s])) = true := by
    simp [evSs, evS, evE, evEs, evB, evC, evO, evP, evI, callD, argSl, argSls, bors, wb, frz, frzs, sees, R.see, lockS, unlockS, asgR, retR, setD, asgT, unlockO, backA, endF, nIf, nIfs, isAnd, truD, RD.r, binD, cmpD, biD, ixD, Mn.Loc, keyD, meD, recv, gtD, apD, ↓evS_fr, ↓evE_lc, ↓evE_srt, eq_ss, eq_ii, eq_is, eq_si, ok_b, ok_t, bt, tb, in_b, in_t, in_i, gd0, gd1, gd2, gd3, is_NoneType_int, is_NoneType_bool, is_NoneType_str, is_NoneType_list, is_NoneType_tuple, is_bool_int, is_bool_bool, is_bool_str, is_bool_list, is_bool_tuple, is_int_int, is_int_bool, is_int_str, is_int_list, is_int_tuple, is_str_int, is_str_bool, is_str_str, is_str_list, is_str_tuple, is_list_int, is_list_bool, is_list_str, is_list_list, is_list_tuple, is_tuple_int, is_tuple_bool, is_tuple_str, is_tuple_list, is_tuple_tuple, is_dict_int, is_dict_bool, is_dict_str, is_dict_list, is_dict_tuple, isiDs, L2.atI, L2.ixN, big, asgS_if, nl_un, nl_val, nl_own, inD1, slD, SeqAt.shaped, D.py, pys, PyData.canLay0, PyData.canLayAll0, h, PyData.depth, PyData.depthAll]
  simp only [eqD, a]
  simp [evSs, evS, evE, evEs, evB, evC, evO, evP, evI, callD, argSl, argSls, bors, wb, frz, frzs, sees, R.see, lockS, unlockS, asgR, retR, setD, asgT, unlockO, backA, endF, nIf, nIfs, isAnd, truD, RD.r, binD, cmpD, biD, ixD, Mn.Loc, keyD, meD, recv, gtD, apD, ↓evS_fr, ↓evE_lc, ↓evE_srt, eq_ss, eq_ii, eq_is, eq_si, ok_b, ok_t, bt, tb, in_b, in_t, in_i, gd0, gd1, gd2, gd3, is_NoneType_int, is_NoneType_bool, is_NoneType_str, is_NoneType_list, is_NoneType_tuple, is_bool_int, is_bool_bool, is_bool_str, is_bool_list, is_bool_tuple, is_int_int, is_int_bool, is_int_str, is_int_list, is_int_tuple, is_str_int, is_str_bool, is_str_str, is_str_list, is_str_tuple, is_list_int, is_list_bool, is_list_str, is_list_list, is_list_tuple, is_tuple_int, is_tuple_bool, is_tuple_str, is_tuple_list, is_tuple_tuple, is_dict_int, is_dict_bool, is_dict_str, is_dict_list, is_dict_tuple, isiDs, L2.atI, L2.ixN, big, asgS_if, nl_un, nl_val, nl_own, inD1, slD, D.eqOk, eqOks, D.py, pys, PyData.eqv, PyData.eqvAll]
theorem at_lev_odd (k : Nat) {o y : D} (h : o ∈ odds) : rn (k+4) 14 [.val o, .val y] = some (.exc 0 o [.val o, .val y]) := by
  simp [evSs, evS, evE, evEs, evB, evC, evO, evP, evI, callD, argSl, argSls, bors, wb, frz, frzs, sees, R.see, lockS, unlockS, asgR, retR, setD, asgT, unlockO, backA, endF, nIf, nIfs, isAnd, truD, RD.r, binD, cmpD, biD, ixD, Mn.Loc, keyD, meD, recv, gtD, apD, ↓evS_fr, ↓evE_lc, ↓evE_srt, eq_ss, eq_ii, eq_is, eq_si, ok_b, ok_t, bt, tb, in_b, in_t, in_i, gd0, gd1, gd2, gd3, is_NoneType_int, is_NoneType_bool, is_NoneType_str, is_NoneType_list, is_NoneType_tuple, is_bool_int, is_bool_bool, is_bool_str, is_bool_list, is_bool_tuple, is_int_int, is_int_bool, is_int_str, is_int_list, is_int_tuple, is_str_int, is_str_bool, is_str_str, is_str_list, is_str_tuple, is_list_int, is_list_bool, is_list_str, is_list_list, is_list_tuple, is_tuple_int, is_tuple_bool, is_tuple_str, is_tuple_list, is_tuple_tuple, is_dict_int, is_dict_bool, is_dict_str, is_dict_list, is_dict_tuple, isiDs, L2.atI, L2.ixN, big, asgS_if, nl_un, nl_val, nl_own, inD1, slD, fn14, b24, odd_want k h]
theorem at_least_o1 (k : Nat) {o y : D} (h : o ∈ odds) : rn (k+4) 11 [.val o, .val y] = some (.exc 0 o [.val o, .val y]) := by
  simp [evSs, evS, evE, evEs, evB, evC, evO, evP, evI, callD, argSl, argSls, bors, wb, frz, frzs, sees, R.see, lockS, unlockS, asgR, retR, setD, asgT, unlockO, backA, endF, nIf, nIfs, isAnd, truD, RD.r, binD, cmpD, biD, ixD, Mn.Loc, keyD, meD, recv, gtD, apD, ↓evS_fr, ↓evE_lc, ↓evE_srt, eq_ss, eq_ii, eq_is, eq_si, ok_b, ok_t, bt, tb, in_b, in_t, in_i, gd0, gd1, gd2, gd3, is_NoneType_int, is_NoneType_bool, is_NoneType_str, is_NoneType_list, is_NoneType_tuple, is_bool_int, is_bool_bool, is_bool_str, is_bool_list, is_bool_tuple, is_int_int, is_int_bool, is_int_str, is_int_list, is_int_tuple, is_str_int, is_str_bool, is_str_str, is_str_list, is_str_tuple, is_list_int, is_list_bool, is_list_str, is_list_list, is_list_tuple, is_tuple_int, is_tuple_bool, is_tuple_str, is_tuple_list, is_tuple_tuple, is_dict_int, is_dict_bool, is_dict_str, is_dict_list, is_dict_tuple, isiDs, L2.atI, L2.ixN, big, asgS_if, nl_un, nl_val, nl_own, inD1, slD, fn11, b21, odd_want k h]
theorem at_least_o2 (k : Nat) {o x : D} (hx : Th x) (h : o ∈ odds) : rn (k+4) 11 [.val x, .val o] = some (.exc 0 o [.val x, .val o]) := by
  simp [evSs, evS, evE, evEs, evB, evC, evO, evP, evI, callD, argSl, argSls, bors, wb, frz, frzs, sees, R.see, lockS, unlockS, asgR, retR, setD, asgT, unlockO, backA, endF, nIf, nIfs, isAnd, truD, RD.r, binD, cmpD, biD, ixD, Mn.Loc, keyD, meD, recv, gtD, apD, ↓evS_fr, ↓evE_lc, ↓evE_srt, eq_ss, eq_ii, eq_is, eq_si, ok_b, ok_t, bt, tb, in_b, in_t, in_i, gd0, gd1, gd2, gd3, is_NoneType_int, is_NoneType_bool, is_NoneType_str, is_NoneType_list, is_NoneType_tuple, is_bool_int, is_bool_bool, is_bool_str, is_bool_list, is_bool_tuple, is_int_int, is_int_bool, is_int_str, is_int_list, is_int_tuple, is_str_int, is_str_bool, is_str_str, is_str_list, is_str_tuple, is_list_int, is_list_bool, is_list_str, is_list_list, is_list_tuple, is_tuple_int, is_tuple_bool, is_tuple_str, is_tuple_list, is_tuple_tuple, is_dict_int, is_dict_bool, is_dict_str, is_dict_list, is_dict_tuple, isiDs, L2.atI, L2.ixN, big, asgS_if, nl_un, nl_val, nl_own, inD1, slD, fn11, b21, odd_want k h, want k hx]
def ranks : List D := [.str "top", .str "bottom", .bl true, .bl false, .non, .str "1", .lst [.int 1], .tup [.int 0], .dct []]
theorem rank_want (k : Nat) {d : D} (h : d ∈ ranks) : rn (k+2) 5 [.val d] = some (.exc 2 d [.val d]) := by
  simp [evSs, evS, evE, evEs, evB, evC, evO, evP, evI, callD, argSl, argSls, bors, wb, frz, frzs, sees, R.see, lockS, unlockS, asgR, retR, setD, asgT, unlockO, backA, endF, nIf, nIfs, isAnd, truD, RD.r, binD, cmpD, biD, ixD, Mn.Loc, keyD, meD, recv, gtD, apD, ↓evS_fr, ↓evE_lc, ↓evE_srt, eq_ss, eq_ii, eq_is, eq_si, ok_b, ok_t, bt, tb, in_b, in_t, in_i, gd0, gd1, gd2, gd3, is_NoneType_int, is_NoneType_bool, is_NoneType_str, is_NoneType_list, is_NoneType_tuple, is_bool_int, is_bool_bool, is_bool_str, is_bool_list, is_bool_tuple, is_int_int, is_int_bool, is_int_str, is_int_list, is_int_tuple, is_str_int, is_str_bool, is_str_str, is_str_list, is_str_tuple, is_list_int, is_list_bool, is_list_str, is_list_list, is_list_tuple, is_tuple_int, is_tuple_bool, is_tuple_str, is_tuple_list, is_tuple_tuple, is_dict_int, is_dict_bool, is_dict_str, is_dict_list, is_dict_tuple, isiDs, L2.atI, L2.ixN, big, asgS_if, nl_un, nl_val, nl_own, inD1, slD, ranks] at h
  rcases h with rfl | rfl | rfl | rfl | rfl | rfl | rfl | rfl | rfl <;> simp [evSs, evS, evE, evEs, evB, evC, evO, evP, evI, callD, argSl, argSls, bors, wb, frz, frzs, sees, R.see, lockS, unlockS, asgR, retR, setD, asgT, unlockO, backA, endF, nIf, nIfs, isAnd, truD, RD.r, binD, cmpD, biD, ixD, Mn.Loc, keyD, meD, recv, gtD, apD, ↓evS_fr, ↓evE_lc, ↓evE_srt, eq_ss, eq_ii, eq_is, eq_si, ok_b, ok_t, bt, tb, in_b, in_t, in_i, gd0, gd1, gd2, gd3, is_NoneType_int, is_NoneType_bool, is_NoneType_str, is_NoneType_list, is_NoneType_tuple, is_bool_int, is_bool_bool, is_bool_str, is_bool_list, is_bool_tuple, is_int_int, is_int_bool, is_int_str, is_int_list, is_int_tuple, is_str_int, is_str_bool, is_str_str, is_str_list, is_str_tuple, is_list_int, is_list_bool, is_list_str, is_list_list, is_list_tuple, is_tuple_int, is_tuple_bool, is_tuple_str, is_tuple_list, is_tuple_tuple, is_dict_int, is_dict_bool, is_dict_str, is_dict_list, is_dict_tuple, isiDs, L2.atI, L2.ixN, big, asgS_if, nl_un, nl_val, nl_own, inD1, slD, fn5, b15, fn0, b10]
theorem rank_sh {d : D} (h : d ∈ ranks) : Sh 70 3 d := by
  have q : ∀ d ∈ ranks, d.shOk = true ∧ d.py.showable = true ∧ d.py.shown.length ≤ 70 ∧ d.py.depth ≤ 3 ∧ PyData.strOk d.py.shown = true := by decide +kernel
  obtain ⟨h1, h2, h3, h4, h5⟩ := q d h
  exact ⟨h1, h2, h3, h4, h5⟩
theorem at_lev_rank (k : Nat) {x r : D} (hx : Th x) (h : r ∈ ranks) : rn (k+4) 14 [.val x, .val r] = some (.exc 2 r [.val x, .val r]) := by
  simp [evSs, evS, evE, evEs, evB, evC, evO, evP, evI, callD, argSl, argSls, bors, wb, frz, frzs, sees, R.see, lockS, unlockS, asgR, retR, setD, asgT, unlockO, backA, endF, nIf, nIfs, isAnd, truD, RD.r, binD, cmpD, biD, ixD, Mn.Loc, keyD, meD, recv, gtD, apD, ↓evS_fr, ↓evE_lc, ↓evE_srt, eq_ss, eq_ii, eq_is, eq_si, ok_b, ok_t, bt, tb, in_b, in_t, in_i, gd0, gd1, gd2, gd3, is_NoneType_int, is_NoneType_bool, is_NoneType_str, is_NoneType_list, is_NoneType_tuple, is_bool_int, is_bool_bool, is_bool_str, is_bool_list, is_bool_tuple, is_int_int, is_int_bool, is_int_str, is_int_list, is_int_tuple, is_str_int, is_str_bool, is_str_str, is_str_list, is_str_tuple, is_list_int, is_list_bool, is_list_str, is_list_list, is_list_tuple, is_tuple_int, is_tuple_bool, is_tuple_str, is_tuple_list, is_tuple_tuple, is_dict_int, is_dict_bool, is_dict_str, is_dict_list, is_dict_tuple, isiDs, L2.atI, L2.ixN, big, asgS_if, nl_un, nl_val, nl_own, inD1, slD, fn14, b24, want k hx, rank_want (k+1) h]
def wrongs (ds : List D) (o m : D) : List D := [.non, .int 5, .str "ab", .dct [], .dct [(.inl 1, .int 2)], .bl true, .lst (ds ++ [o]), .tup (o :: ds), .lst [o, m]]
theorem wrong_lev (k : Nat) {ds : List D} {o m w : D} (h : ∀ d ∈ ds, Th d) (l : ds.length ≤ 8) (ho : o ∈ odds) (hm : m ∈ odds) (hw : w ∈ wrongs ds o m) : rn (k+3) 15 [.val w] = some (.exc 1 w [.val w]) := by
  simp [evSs, evS, evE, evEs, evB, evC, evO, evP, evI, callD, argSl, argSls, bors, wb, frz, frzs, sees, R.see, lockS, unlockS, asgR, retR, setD, asgT, unlockO, backA, endF, nIf, nIfs, isAnd, truD, RD.r, binD, cmpD, biD, ixD, Mn.Loc, keyD, meD, recv, gtD, apD, ↓evS_fr, ↓evE_lc, ↓evE_srt, eq_ss, eq_ii, eq_is, eq_si, ok_b, ok_t, bt, tb, in_b, in_t, in_i, gd0, gd1, gd2, gd3, is_NoneType_int, is_NoneType_bool, is_NoneType_str, is_NoneType_list, is_NoneType_tuple, is_bool_int, is_bool_bool, is_bool_str, is_bool_list, is_bool_tuple, is_int_int, is_int_bool, is_int_str, is_int_list, is_int_tuple, is_str_int, is_str_bool, is_str_str, is_str_list, is_str_tuple, is_list_int, is_list_bool, is_list_str, is_list_list, is_list_tuple, is_tuple_int, is_tuple_bool, is_tuple_str, is_tuple_list, is_tuple_tuple, is_dict_int, is_dict_bool, is_dict_str, is_dict_list, is_dict_tuple, isiDs, L2.atI, L2.ixN, big, asgS_if, nl_un, nl_val, nl_own, inD1, slD, wrongs] at hw
  rcases hw with rfl | rfl | rfl | rfl | rfl | rfl | rfl | rfl | rfl
  · exact wrong_no (k+1) rfl
  · exact wrong_no (k+1) rfl
  · exact wrong_no (k+1) rfl
  · exact wrong_no (k+1) rfl
  · exact wrong_no (k+1) rfl
  · exact wrong_no (k+1) rfl
  · refine wrong_lst k (fun d hd => ?_) ⟨o, by simp [evSs, evS, evE, evEs, evB, evC, evO, evP, evI, callD, argSl, argSls, bors, wb, frz, frzs, sees, R.see, lockS, unlockS, asgR, retR, setD, asgT, unlockO, backA, endF, nIf, nIfs, isAnd, truD, RD.r, binD, cmpD, biD, ixD, Mn.Loc, keyD, meD, recv, gtD, apD, ↓evS_fr, ↓evE_lc, ↓evE_srt, eq_ss, eq_ii, eq_is, eq_si, ok_b, ok_t, bt, tb, in_b, in_t, in_i, gd0, gd1, gd2, gd3, is_NoneType_int, is_NoneType_bool, is_NoneType_str, is_NoneType_list, is_NoneType_tuple, is_bool_int, is_bool_bool, is_bool_str, is_bool_list, is_bool_tuple, is_int_int, is_int_bool, is_int_str, is_int_list, is_int_tuple, is_str_int, is_str_bool, is_str_str, is_str_list, is_str_tuple, is_list_int, is_list_bool, is_list_str, is_list_list, is_list_tuple, is_tuple_int, is_tuple_bool, is_tuple_str, is_tuple_list, is_tuple_tuple, is_dict_int, is_dict_bool, is_dict_str, is_dict_list, is_dict_tuple, isiDs, L2.atI, L2.ixN, big, asgS_if, nl_un, nl_val, nl_own, inD1, slD], ho⟩ (by simp [evSs, evS, evE, evEs, evB, evC, evO, evP, evI, callD, argSl, argSls, bors, wb, frz, frzs, sees, R.see, lockS, unlockS, asgR, retR, setD, asgT, unlockO, backA, endF, nIf, nIfs, isAnd, truD, RD.r, binD, cmpD, biD, ixD, Mn.Loc, keyD, meD, recv, gtD, apD, ↓evS_fr, ↓evE_lc, ↓evE_srt, eq_ss, eq_ii, eq_is, eq_si, ok_b, ok_t, bt, tb, in_b, in_t, in_i, gd0, gd1, gd2, gd3, is_NoneType_int, is_NoneType_bool, is_NoneType_str, is_NoneType_list, is_NoneType_tuple, is_bool_int, is_bool_bool, is_bool_str, is_bool_list, is_bool_tuple, is_int_int, is_int_bool, is_int_str, is_int_list, is_int_tuple, is_str_int, is_str_bool, is_str_str, is_str_list, is_str_tuple, is_list_int, is_list_bool, is_list_str, is_list_list, is_list_tuple, is_tuple_int, is_tuple_bool, is_tuple_str, is_tuple_list, is_tuple_tuple, is_dict_int, is_dict_bool, is_dict_str, is_dict_list, is_dict_tuple, isiDs, L2.atI, L2.ixN, big, asgS_if, nl_un, nl_val, nl_own, inD1, slD]; omega)
    simp [evSs, evS, evE, evEs, evB, evC, evO, evP, evI, callD, argSl, argSls, bors, wb, frz, frzs, sees, R.see, lockS, unlockS, asgR, retR, setD, asgT, unlockO, backA, endF, nIf, nIfs, isAnd, truD, RD.r, binD, cmpD, biD, ixD, Mn.Loc, keyD, meD, recv, gtD, apD, ↓evS_fr, ↓evE_lc, ↓evE_srt, eq_ss, eq_ii, eq_is, eq_si, ok_b, ok_t, bt, tb, in_b, in_t, in_i, gd0, gd1, gd2, gd3, is_NoneType_int, is_NoneType_bool, is_NoneType_str, is_NoneType_list, is_NoneType_tuple, is_bool_int, is_bool_bool, is_bool_str, is_bool_list, is_bool_tuple, is_int_int, is_int_bool, is_int_str, is_int_list, is_int_tuple, is_str_int, is_str_bool, is_str_str, is_str_list, is_str_tuple, is_list_int, is_list_bool, is_list_str, is_list_list, is_list_tuple, is_tuple_int, is_tuple_bool, is_tuple_str, is_tuple_list, is_tuple_tuple, is_dict_int, is_dict_bool, is_dict_str, is_dict_list, is_dict_tuple, isiDs, L2.atI, L2.ixN, big, asgS_if, nl_un, nl_val, nl_own, inD1, slD] at hd
    rcases hd with hd | rfl
    · exact .inl (h d hd)
    · exact .inr ho
  · refine wrong_tup k (fun d hd => ?_) ⟨o, by simp [evSs, evS, evE, evEs, evB, evC, evO, evP, evI, callD, argSl, argSls, bors, wb, frz, frzs, sees, R.see, lockS, unlockS, asgR, retR, setD, asgT, unlockO, backA, endF, nIf, nIfs, isAnd, truD, RD.r, binD, cmpD, biD, ixD, Mn.Loc, keyD, meD, recv, gtD, apD, ↓evS_fr, ↓evE_lc, ↓evE_srt, eq_ss, eq_ii, eq_is, eq_si, ok_b, ok_t, bt, tb, in_b, in_t, in_i, gd0, gd1, gd2, gd3, is_NoneType_int, is_NoneType_bool, is_NoneType_str, is_NoneType_list, is_NoneType_tuple, is_bool_int, is_bool_bool, is_bool_str, is_bool_list, is_bool_tuple, is_int_int, is_int_bool, is_int_str, is_int_list, is_int_tuple, is_str_int, is_str_bool, is_str_str, is_str_list, is_str_tuple, is_list_int, is_list_bool, is_list_str, is_list_list, is_list_tuple, is_tuple_int, is_tuple_bool, is_tuple_str, is_tuple_list, is_tuple_tuple, is_dict_int, is_dict_bool, is_dict_str, is_dict_list, is_dict_tuple, isiDs, L2.atI, L2.ixN, big, asgS_if, nl_un, nl_val, nl_own, inD1, slD], ho⟩ (by simp [evSs, evS, evE, evEs, evB, evC, evO, evP, evI, callD, argSl, argSls, bors, wb, frz, frzs, sees, R.see, lockS, unlockS, asgR, retR, setD, asgT, unlockO, backA, endF, nIf, nIfs, isAnd, truD, RD.r, binD, cmpD, biD, ixD, Mn.Loc, keyD, meD, recv, gtD, apD, ↓evS_fr, ↓evE_lc, ↓evE_srt, eq_ss, eq_ii, eq_is, eq_si, ok_b, ok_t, bt, tb, in_b, in_t, in_i, gd0, gd1, gd2, gd3, is_NoneType_int, is_NoneType_bool, is_NoneType_str, is_NoneType_list, is_NoneType_tuple, is_bool_int, is_bool_bool, is_bool_str, is_bool_list, is_bool_tuple, is_int_int, is_int_bool, is_int_str, is_int_list, is_int_tuple, is_str_int, is_str_bool, is_str_str, is_str_list, is_str_tuple, is_list_int, is_list_bool, is_list_str, is_list_list, is_list_tuple, is_tuple_int, is_tuple_bool, is_tuple_str, is_tuple_list, is_tuple_tuple, is_dict_int, is_dict_bool, is_dict_str, is_dict_list, is_dict_tuple, isiDs, L2.atI, L2.ixN, big, asgS_if, nl_un, nl_val, nl_own, inD1, slD]; omega)
    simp [evSs, evS, evE, evEs, evB, evC, evO, evP, evI, callD, argSl, argSls, bors, wb, frz, frzs, sees, R.see, lockS, unlockS, asgR, retR, setD, asgT, unlockO, backA, endF, nIf, nIfs, isAnd, truD, RD.r, binD, cmpD, biD, ixD, Mn.Loc, keyD, meD, recv, gtD, apD, ↓evS_fr, ↓evE_lc, ↓evE_srt, eq_ss, eq_ii, eq_is, eq_si, ok_b, ok_t, bt, tb, in_b, in_t, in_i, gd0, gd1, gd2, gd3, is_NoneType_int, is_NoneType_bool, is_NoneType_str, is_NoneType_list, is_NoneType_tuple, is_bool_int, is_bool_bool, is_bool_str, is_bool_list, is_bool_tuple, is_int_int, is_int_bool, is_int_str, is_int_list, is_int_tuple, is_str_int, is_str_bool, is_str_str, is_str_list, is_str_tuple, is_list_int, is_list_bool, is_list_str, is_list_list, is_list_tuple, is_tuple_int, is_tuple_bool, is_tuple_str, is_tuple_list, is_tuple_tuple, is_dict_int, is_dict_bool, is_dict_str, is_dict_list, is_dict_tuple, isiDs, L2.atI, L2.ixN, big, asgS_if, nl_un, nl_val, nl_own, inD1, slD] at hd
    rcases hd with rfl | hd
    · exact .inr ho
    · exact .inl (h d hd)
  · refine wrong_lst k (fun d hd => ?_) ⟨o, by simp [evSs, evS, evE, evEs, evB, evC, evO, evP, evI, callD, argSl, argSls, bors, wb, frz, frzs, sees, R.see, lockS, unlockS, asgR, retR, setD, asgT, unlockO, backA, endF, nIf, nIfs, isAnd, truD, RD.r, binD, cmpD, biD, ixD, Mn.Loc, keyD, meD, recv, gtD, apD, ↓evS_fr, ↓evE_lc, ↓evE_srt, eq_ss, eq_ii, eq_is, eq_si, ok_b, ok_t, bt, tb, in_b, in_t, in_i, gd0, gd1, gd2, gd3, is_NoneType_int, is_NoneType_bool, is_NoneType_str, is_NoneType_list, is_NoneType_tuple, is_bool_int, is_bool_bool, is_bool_str, is_bool_list, is_bool_tuple, is_int_int, is_int_bool, is_int_str, is_int_list, is_int_tuple, is_str_int, is_str_bool, is_str_str, is_str_list, is_str_tuple, is_list_int, is_list_bool, is_list_str, is_list_list, is_list_tuple, is_tuple_int, is_tuple_bool, is_tuple_str, is_tuple_list, is_tuple_tuple, is_dict_int, is_dict_bool, is_dict_str, is_dict_list, is_dict_tuple, isiDs, L2.atI, L2.ixN, big, asgS_if, nl_un, nl_val, nl_own, inD1, slD], ho⟩ (by simp [evSs, evS, evE, evEs, evB, evC, evO, evP, evI, callD, argSl, argSls, bors, wb, frz, frzs, sees, R.see, lockS, unlockS, asgR, retR, setD, asgT, unlockO, backA, endF, nIf, nIfs, isAnd, truD, RD.r, binD, cmpD, biD, ixD, Mn.Loc, keyD, meD, recv, gtD, apD, ↓evS_fr, ↓evE_lc, ↓evE_srt, eq_ss, eq_ii, eq_is, eq_si, ok_b, ok_t, bt, tb, in_b, in_t, in_i, gd0, gd1, gd2, gd3, is_NoneType_int, is_NoneType_bool, is_NoneType_str, is_NoneType_list, is_NoneType_tuple, is_bool_int, is_bool_bool, is_bool_str, is_bool_list, is_bool_tuple, is_int_int, is_int_bool, is_int_str, is_int_list, is_int_tuple, is_str_int, is_str_bool, is_str_str, is_str_list, is_str_tuple, is_list_int, is_list_bool, is_list_str, is_list_list, is_list_tuple, is_tuple_int, is_tuple_bool, is_tuple_str, is_tuple_list, is_tuple_tuple, is_dict_int, is_dict_bool, is_dict_str, is_dict_list, is_dict_tuple, isiDs, L2.atI, L2.ixN, big, asgS_if, nl_un, nl_val, nl_own, inD1, slD])
    simp [evSs, evS, evE, evEs, evB, evC, evO, evP, evI, callD, argSl, argSls, bors, wb, frz, frzs, sees, R.see, lockS, unlockS, asgR, retR, setD, asgT, unlockO, backA, endF, nIf, nIfs, isAnd, truD, RD.r, binD, cmpD, biD, ixD, Mn.Loc, keyD, meD, recv, gtD, apD, ↓evS_fr, ↓evE_lc, ↓evE_srt, eq_ss, eq_ii, eq_is, eq_si, ok_b, ok_t, bt, tb, in_b, in_t, in_i, gd0, gd1, gd2, gd3, is_NoneType_int, is_NoneType_bool, is_NoneType_str, is_NoneType_list, is_NoneType_tuple, is_bool_int, is_bool_bool, is_bool_str, is_bool_list, is_bool_tuple, is_int_int, is_int_bool, is_int_str, is_int_list, is_int_tuple, is_str_int, is_str_bool, is_str_str, is_str_list, is_str_tuple, is_list_int, is_list_bool, is_list_str, is_list_list, is_list_tuple, is_tuple_int, is_tuple_bool, is_tuple_str, is_tuple_list, is_tuple_tuple, is_dict_int, is_dict_bool, is_dict_str, is_dict_list, is_dict_tuple, isiDs, L2.atI, L2.ixN, big, asgS_if, nl_un, nl_val, nl_own, inD1, slD] at hd
    rcases hd with rfl | rfl
    · exact .inr ho
    · exact .inr hm
theorem wrong_sh {ds : List D} {o m w : D} (h : ∀ d ∈ ds, Th d) (l : ds.length ≤ 8) (ho : o ∈ odds) (hm : m ∈ odds) (hw : w ∈ wrongs ds o m) : Sh 2000 6 w := by
  have q : ∀ d ∈ ([.non, .int 5, .str "ab", .dct [], .dct [(.inl 1, .int 2)], .bl true] : List D), d.shOk = true ∧ d.py.showable = true ∧ d.py.shown.length ≤ 2000 ∧ d.py.depth ≤ 6 ∧ PyData.strOk d.py.shown = true := by decide +kernel
  have q' : ∀ d ∈ ([.non, .int 5, .str "ab", .dct [], .dct [(.inl 1, .int 2)], .bl true] : List D), Sh 2000 6 d := fun d hd => by
    obtain ⟨h1, h2, h3, h4, h5⟩ := q d hd
    exact ⟨h1, h2, h3, h4, h5⟩
  simp [evSs, evS, evE, evEs, evB, evC, evO, evP, evI, callD, argSl, argSls, bors, wb, frz, frzs, sees, R.see, lockS, unlockS, asgR, retR, setD, asgT, unlockO, backA, endF, nIf, nIfs, isAnd, truD, RD.r, binD, cmpD, biD, ixD, Mn.Loc, keyD, meD, recv, gtD, apD, ↓evS_fr, ↓evE_lc, ↓evE_srt, eq_ss, eq_ii, eq_is, eq_si, ok_b, ok_t, bt, tb, in_b, in_t, in_i, gd0, gd1, gd2, gd3, is_NoneType_int, is_NoneType_bool, is_NoneType_str, is_NoneType_list, is_NoneType_tuple, is_bool_int, is_bool_bool, is_bool_str, is_bool_list, is_bool_tuple, is_int_int, is_int_bool, is_int_str, is_int_list, is_int_tuple, is_str_int, is_str_bool, is_str_str, is_str_list, is_str_tuple, is_list_int, is_list_bool, is_list_str, is_list_list, is_list_tuple, is_tuple_int, is_tuple_bool, is_tuple_str, is_tuple_list, is_tuple_tuple, is_dict_int, is_dict_bool, is_dict_str, is_dict_list, is_dict_tuple, isiDs, L2.atI, L2.ixN, big, asgS_if, nl_un, nl_val, nl_own, inD1, slD, wrongs] at hw
  rcases hw with rfl | rfl | rfl | rfl | rfl | rfl | rfl | rfl | rfl
  · exact q' _ (by simp [evSs, evS, evE, evEs, evB, evC, evO, evP, evI, callD, argSl, argSls, bors, wb, frz, frzs, sees, R.see, lockS, unlockS, asgR, retR, setD, asgT, unlockO, backA, endF, nIf, nIfs, isAnd, truD, RD.r, binD, cmpD, biD, ixD, Mn.Loc, keyD, meD, recv, gtD, apD, ↓evS_fr, ↓evE_lc, ↓evE_srt, eq_ss, eq_ii, eq_is, eq_si, ok_b, ok_t, bt, tb, in_b, in_t, in_i, gd0, gd1, gd2, gd3, is_NoneType_int, is_NoneType_bool, is_NoneType_str, is_NoneType_list, is_NoneType_tuple, is_bool_int, is_bool_bool, is_bool_str, is_bool_list, is_bool_tuple, is_int_int, is_int_bool, is_int_str, is_int_list, is_int_tuple, is_str_int, is_str_bool, is_str_str, is_str_list, is_str_tuple, is_list_int, is_list_bool, is_list_str, is_list_list, is_list_tuple, is_tuple_int, is_tuple_bool, is_tuple_str, is_tuple_list, is_tuple_tuple, is_dict_int, is_dict_bool, is_dict_str, is_dict_list, is_dict_tuple, isiDs, L2.atI, L2.ixN, big, asgS_if, nl_un, nl_val, nl_own, inD1, slD])
  · exact q' _ (by simp [evSs, evS, evE, evEs, evB, evC, evO, evP, evI, callD, argSl, argSls, bors, wb, frz, frzs, sees, R.see, lockS, unlockS, asgR, retR, setD, asgT, unlockO, backA, endF, nIf, nIfs, isAnd, truD, RD.r, binD, cmpD, biD, ixD, Mn.Loc, keyD, meD, recv, gtD, apD, ↓evS_fr, ↓evE_lc, ↓evE_srt, eq_ss, eq_ii, eq_is, eq_si, ok_b, ok_t, bt, tb, in_b, in_t, in_i, gd0, gd1, gd2, gd3, is_NoneType_int, is_NoneType_bool, is_NoneType_str, is_NoneType_list, is_NoneType_tuple, is_bool_int, is_bool_bool, is_bool_str, is_bool_list, is_bool_tuple, is_int_int, is_int_bool, is_int_str, is_int_list, is_int_tuple, is_str_int, is_str_bool, is_str_str, is_str_list, is_str_tuple, is_list_int, is_list_bool, is_list_str, is_list_list, is_list_tuple, is_tuple_int, is_tuple_bool, is_tuple_str, is_tuple_list, is_tuple_tuple, is_dict_int, is_dict_bool, is_dict_str, is_dict_list, is_dict_tuple, isiDs, L2.atI, L2.ixN, big, asgS_if, nl_un, nl_val, nl_own, inD1, slD])
  · exact q' _ (by simp [evSs, evS, evE, evEs, evB, evC, evO, evP, evI, callD, argSl, argSls, bors, wb, frz, frzs, sees, R.see, lockS, unlockS, asgR, retR, setD, asgT, unlockO, backA, endF, nIf, nIfs, isAnd, truD, RD.r, binD, cmpD, biD, ixD, Mn.Loc, keyD, meD, recv, gtD, apD, ↓evS_fr, ↓evE_lc, ↓evE_srt, eq_ss, eq_ii, eq_is, eq_si, ok_b, ok_t, bt, tb, in_b, in_t, in_i, gd0, gd1, gd2, gd3, is_NoneType_int, is_NoneType_bool, is_NoneType_str, is_NoneType_list, is_NoneType_tuple, is_bool_int, is_bool_bool, is_bool_str, is_bool_list, is_bool_tuple, is_int_int, is_int_bool, is_int_str, is_int_list, is_int_tuple, is_str_int, is_str_bool, is_str_str, is_str_list, is_str_tuple, is_list_int, is_list_bool, is_list_str, is_list_list, is_list_tuple, is_tuple_int, is_tuple_bool, is_tuple_str, is_tuple_list, is_tuple_tuple, is_dict_int, is_dict_bool, is_dict_str, is_dict_list, is_dict_tuple, isiDs, L2.atI, L2.ixN, big, asgS_if, nl_un, nl_val, nl_own, inD1, slD])
  · exact q' _ (by simp [evSs, evS, evE, evEs, evB, evC, evO, evP, evI, callD, argSl, argSls, bors, wb, frz, frzs, sees, R.see, lockS, unlockS, asgR, retR, setD, asgT, unlockO, backA, endF, nIf, nIfs, isAnd, truD, RD.r, binD, cmpD, biD, ixD, Mn.Loc, keyD, meD, recv, gtD, apD, ↓evS_fr, ↓evE_lc, ↓evE_srt, eq_ss, eq_ii, eq_is, eq_si, ok_b, ok_t, bt, tb, in_b, in_t, in_i, gd0, gd1, gd2, gd3, is_NoneType_int, is_NoneType_bool, is_NoneType_str, is_NoneType_list, is_NoneType_tuple, is_bool_int, is_bool_bool, is_bool_str, is_bool_list, is_bool_tuple, is_int_int, is_int_bool, is_int_str, is_int_list, is_int_tuple, is_str_int, is_str_bool, is_str_str, is_str_list, is_str_tuple, is_list_int, is_list_bool, is_list_str, is_list_list, is_list_tuple, is_tuple_int, is_tuple_bool, is_tuple_str, is_tuple_list, is_tuple_tuple, is_dict_int, is_dict_bool, is_dict_str, is_dict_list, is_dict_tuple, isiDs, L2.atI, L2.ixN, big, asgS_if, nl_un, nl_val, nl_own, inD1, slD])
  · exact q' _ (by simp [evSs, evS, evE, evEs, evB, evC, evO, evP, evI, callD, argSl, argSls, bors, wb, frz, frzs, sees, R.see, lockS, unlockS, asgR, retR, setD, asgT, unlockO, backA, endF, nIf, nIfs, isAnd, truD, RD.r, binD, cmpD, biD, ixD, Mn.Loc, keyD, meD, recv, gtD, apD, ↓evS_fr, ↓evE_lc, ↓evE_srt, eq_ss, eq_ii, eq_is, eq_si, ok_b, ok_t, bt, tb, in_b, in_t, in_i, gd0, gd1, gd2, gd3, is_NoneType_int, is_NoneType_bool, is_NoneType_str, is_NoneType_list, is_NoneType_tuple, is_bool_int, is_bool_bool, is_bool_str, is_bool_list, is_bool_tuple, is_int_int, is_int_bool, is_int_str, is_int_list, is_int_tuple, is_str_int, is_str_bool, is_str_str, is_str_list, is_str_tuple, is_list_int, is_list_bool, is_list_str, is_list_list, is_list_tuple, is_tuple_int, is_tuple_bool, is_tuple_str, is_tuple_list, is_tuple_tuple, is_dict_int, is_dict_bool, is_dict_str, is_dict_list, is_dict_tuple, isiDs, L2.atI, L2.ixN, big, asgS_if, nl_un, nl_val, nl_own, inD1, slD])
  · exact q' _ (by simp [evSs, evS, evE, evEs, evB, evC, evO, evP, evI, callD, argSl, argSls, bors, wb, frz, frzs, sees, R.see, lockS, unlockS, asgR, retR, setD, asgT, unlockO, backA, endF, nIf, nIfs, isAnd, truD, RD.r, binD, cmpD, biD, ixD, Mn.Loc, keyD, meD, recv, gtD, apD, ↓evS_fr, ↓evE_lc, ↓evE_srt, eq_ss, eq_ii, eq_is, eq_si, ok_b, ok_t, bt, tb, in_b, in_t, in_i, gd0, gd1, gd2, gd3, is_NoneType_int, is_NoneType_bool, is_NoneType_str, is_NoneType_list, is_NoneType_tuple, is_bool_int, is_bool_bool, is_bool_str, is_bool_list, is_bool_tuple, is_int_int, is_int_bool, is_int_str, is_int_list, is_int_tuple, is_str_int, is_str_bool, is_str_str, is_str_list, is_str_tuple, is_list_int, is_list_bool, is_list_str, is_list_list, is_list_tuple, is_tuple_int, is_tuple_bool, is_tuple_str, is_tuple_list, is_tuple_tuple, is_dict_int, is_dict_bool, is_dict_str, is_dict_list, is_dict_tuple, isiDs, L2.atI, L2.ixN, big, asgS_if, nl_un, nl_val, nl_own, inD1, slD])
  · refine (Sh.lst (n := 70) (m := 3) fun d hd => ?_).mono (by simp [evSs, evS, evE, evEs, evB, evC, evO, evP, evI, callD, argSl, argSls, bors, wb, frz, frzs, sees, R.see, lockS, unlockS, asgR, retR, setD, asgT, unlockO, backA, endF, nIf, nIfs, isAnd, truD, RD.r, binD, cmpD, biD, ixD, Mn.Loc, keyD, meD, recv, gtD, apD, ↓evS_fr, ↓evE_lc, ↓evE_srt, eq_ss, eq_ii, eq_is, eq_si, ok_b, ok_t, bt, tb, in_b, in_t, in_i, gd0, gd1, gd2, gd3, is_NoneType_int, is_NoneType_bool, is_NoneType_str, is_NoneType_list, is_NoneType_tuple, is_bool_int, is_bool_bool, is_bool_str, is_bool_list, is_bool_tuple, is_int_int, is_int_bool, is_int_str, is_int_list, is_int_tuple, is_str_int, is_str_bool, is_str_str, is_str_list, is_str_tuple, is_list_int, is_list_bool, is_list_str, is_list_list, is_list_tuple, is_tuple_int, is_tuple_bool, is_tuple_str, is_tuple_list, is_tuple_tuple, is_dict_int, is_dict_bool, is_dict_str, is_dict_list, is_dict_tuple, isiDs, L2.atI, L2.ixN, big, asgS_if, nl_un, nl_val, nl_own, inD1, slD]; omega) (by omega)
    simp [evSs, evS, evE, evEs, evB, evC, evO, evP, evI, callD, argSl, argSls, bors, wb, frz, frzs, sees, R.see, lockS, unlockS, asgR, retR, setD, asgT, unlockO, backA, endF, nIf, nIfs, isAnd, truD, RD.r, binD, cmpD, biD, ixD, Mn.Loc, keyD, meD, recv, gtD, apD, ↓evS_fr, ↓evE_lc, ↓evE_srt, eq_ss, eq_ii, eq_is, eq_si, ok_b, ok_t, bt, tb, in_b, in_t, in_i, gd0, gd1, gd2, gd3, is_NoneType_int, is_NoneType_bool, is_NoneType_str, is_NoneType_list, is_NoneType_tuple, is_bool_int, is_bool_bool, is_bool_str, is_bool_list, is_bool_tuple, is_int_int, is_int_bool, is_int_str, is_int_list, is_int_tuple, is_str_int, is_str_bool, is_str_str, is_str_list, is_str_tuple, is_list_int, is_list_bool, is_list_str, is_list_list, is_list_tuple, is_tuple_int, is_tuple_bool, is_tuple_str, is_tuple_list, is_tuple_tuple, is_dict_int, is_dict_bool, is_dict_str, is_dict_list, is_dict_tuple, isiDs, L2.atI, L2.ixN, big, asgS_if, nl_un, nl_val, nl_own, inD1, slD] at hd
    rcases hd with hd | rfl
    · exact (h d hd).sh.mono (by omega) (by omega)
    · exact odd_sh ho
  · refine (Sh.tup (n := 70) (m := 3) fun d hd => ?_).mono (by simp [evSs, evS, evE, evEs, evB, evC, evO, evP, evI, callD, argSl, argSls, bors, wb, frz, frzs, sees, R.see, lockS, unlockS, asgR, retR, setD, asgT, unlockO, backA, endF, nIf, nIfs, isAnd, truD, RD.r, binD, cmpD, biD, ixD, Mn.Loc, keyD, meD, recv, gtD, apD, ↓evS_fr, ↓evE_lc, ↓evE_srt, eq_ss, eq_ii, eq_is, eq_si, ok_b, ok_t, bt, tb, in_b, in_t, in_i, gd0, gd1, gd2, gd3, is_NoneType_int, is_NoneType_bool, is_NoneType_str, is_NoneType_list, is_NoneType_tuple, is_bool_int, is_bool_bool, is_bool_str, is_bool_list, is_bool_tuple, is_int_int, is_int_bool, is_int_str, is_int_list, is_int_tuple, is_str_int, is_str_bool, is_str_str, is_str_list, is_str_tuple, is_list_int, is_list_bool, is_list_str, is_list_list, is_list_tuple, is_tuple_int, is_tuple_bool, is_tuple_str, is_tuple_list, is_tuple_tuple, is_dict_int, is_dict_bool, is_dict_str, is_dict_list, is_dict_tuple, isiDs, L2.atI, L2.ixN, big, asgS_if, nl_un, nl_val, nl_own, inD1, slD]; omega) (by omega)
    simp [evSs, evS, evE, evEs, evB, evC, evO, evP, evI, callD, argSl, argSls, bors, wb, frz, frzs, sees, R.see, lockS, unlockS, asgR, retR, setD, asgT, unlockO, backA, endF, nIf, nIfs, isAnd, truD, RD.r, binD, cmpD, biD, ixD, Mn.Loc, keyD, meD, recv, gtD, apD, ↓evS_fr, ↓evE_lc, ↓evE_srt, eq_ss, eq_ii, eq_is, eq_si, ok_b, ok_t, bt, tb, in_b, in_t, in_i, gd0, gd1, gd2, gd3, is_NoneType_int, is_NoneType_bool, is_NoneType_str, is_NoneType_list, is_NoneType_tuple, is_bool_int, is_bool_bool, is_bool_str, is_bool_list, is_bool_tuple, is_int_int, is_int_bool, is_int_str, is_int_list, is_int_tuple, is_str_int, is_str_bool, is_str_str, is_str_list, is_str_tuple, is_list_int, is_list_bool, is_list_str, is_list_list, is_list_tuple, is_tuple_int, is_tuple_bool, is_tuple_str, is_tuple_list, is_tuple_tuple, is_dict_int, is_dict_bool, is_dict_str, is_dict_list, is_dict_tuple, isiDs, L2.atI, L2.ixN, big, asgS_if, nl_un, nl_val, nl_own, inD1, slD] at hd
    rcases hd with rfl | hd
    · exact odd_sh ho
    · exact (h d hd).sh.mono (by omega) (by omega)
  · refine (Sh.lst (n := 70) (m := 3) fun d hd => ?_).mono (by simp [evSs, evS, evE, evEs, evB, evC, evO, evP, evI, callD, argSl, argSls, bors, wb, frz, frzs, sees, R.see, lockS, unlockS, asgR, retR, setD, asgT, unlockO, backA, endF, nIf, nIfs, isAnd, truD, RD.r, binD, cmpD, biD, ixD, Mn.Loc, keyD, meD, recv, gtD, apD, ↓evS_fr, ↓evE_lc, ↓evE_srt, eq_ss, eq_ii, eq_is, eq_si, ok_b, ok_t, bt, tb, in_b, in_t, in_i, gd0, gd1, gd2, gd3, is_NoneType_int, is_NoneType_bool, is_NoneType_str, is_NoneType_list, is_NoneType_tuple, is_bool_int, is_bool_bool, is_bool_str, is_bool_list, is_bool_tuple, is_int_int, is_int_bool, is_int_str, is_int_list, is_int_tuple, is_str_int, is_str_bool, is_str_str, is_str_list, is_str_tuple, is_list_int, is_list_bool, is_list_str, is_list_list, is_list_tuple, is_tuple_int, is_tuple_bool, is_tuple_str, is_tuple_list, is_tuple_tuple, is_dict_int, is_dict_bool, is_dict_str, is_dict_list, is_dict_tuple, isiDs, L2.atI, L2.ixN, big, asgS_if, nl_un, nl_val, nl_own, inD1, slD]) (by omega)
    simp [evSs, evS, evE, evEs, evB, evC, evO, evP, evI, callD, argSl, argSls, bors, wb, frz, frzs, sees, R.see, lockS, unlockS, asgR, retR, setD, asgT, unlockO, backA, endF, nIf, nIfs, isAnd, truD, RD.r, binD, cmpD, biD, ixD, Mn.Loc, keyD, meD, recv, gtD, apD, ↓evS_fr, ↓evE_lc, ↓evE_srt, eq_ss, eq_ii, eq_is, eq_si, ok_b, ok_t, bt, tb, in_b, in_t, in_i, gd0, gd1, gd2, gd3, is_NoneType_int, is_NoneType_bool, is_NoneType_str, is_NoneType_list, is_NoneType_tuple, is_bool_int, is_bool_bool, is_bool_str, is_bool_list, is_bool_tuple, is_int_int, is_int_bool, is_int_str, is_int_list, is_int_tuple, is_str_int, is_str_bool, is_str_str, is_str_list, is_str_tuple, is_list_int, is_list_bool, is_list_str, is_list_list, is_list_tuple, is_tuple_int, is_tuple_bool, is_tuple_str, is_tuple_list, is_tuple_tuple, is_dict_int, is_dict_bool, is_dict_str, is_dict_list, is_dict_tuple, isiDs, L2.atI, L2.ixN, big, asgS_if, nl_un, nl_val, nl_own, inD1, slD] at hd
    rcases hd with rfl | rfl
    · exact odd_sh ho
    · exact odd_sh hm
theorem refused (k : Nat) (p : Pot) {ds : List D} (h : ∀ d ∈ ds, Th d) (l : ds.length ≤ 8) : ∃ p' : Pot, rn (k+6) 30 [.own p.w, .own ds] = some (.ret (.val (.bl true)) [.own p'.w, .own ds]) := by
  obtain ⟨o, ho, p1, e1⟩ := odd (k+2) p
  obtain ⟨m, hm, p2, e2⟩ := odd (k+2) p1
  have hS : ∀ d ∈ ds.take 2, Th d := fun d hd => h d (List.mem_of_mem_take hd)
  have lS : (ds.take 2).length ≤ 2 := List.length_take_le 2 ds
  have ct := cut_to ds (z := 2) (by decide)
  rw [show (2 : Int).toNat = 2 from rfl] at ct
  generalize ds.take 2 = S at hS lS ct
  have dr := draw (k+4) p2 (m := S.length + 1) (by omega) (by omega)
  obtain ⟨j0, j1⟩ := dv_r p2 (m := S.length + 1) (by omega)
  have j2 : dv p2 (S.length + 1) ≤ S.length := by omega
  generalize dv p2 (S.length + 1) = j at dr j0 j1 j2
  generalize dn p2 (S.length + 1) = p3 at dr
  have hA : ∀ d ∈ S.take j.toNat, Th d := fun d hd => hS d (List.mem_of_mem_take hd)
  have lA : (S.take j.toNat).length ≤ 2 := Nat.le_trans (List.length_take_le' _ _) lS
  have lAB : (S.take j.toNat).length + (S.drop j.toNat).length = S.length := by rw [← List.length_append, List.take_append_drop]
  generalize eA : S.take j.toNat = A at hA lA lAB
  generalize eB : S.drop j.toNat = B at lAB
  have x0 := extreme0x k (ds := A) (r := B ++ [m]) hA ho (by simp [evSs, evS, evE, evEs, evB, evC, evO, evP, evI, callD, argSl, argSls, bors, wb, frz, frzs, sees, R.see, lockS, unlockS, asgR, retR, setD, asgT, unlockO, backA, endF, nIf, nIfs, isAnd, truD, RD.r, binD, cmpD, biD, ixD, Mn.Loc, keyD, meD, recv, gtD, apD, ↓evS_fr, ↓evE_lc, ↓evE_srt, eq_ss, eq_ii, eq_is, eq_si, ok_b, ok_t, bt, tb, in_b, in_t, in_i, gd0, gd1, gd2, gd3, is_NoneType_int, is_NoneType_bool, is_NoneType_str, is_NoneType_list, is_NoneType_tuple, is_bool_int, is_bool_bool, is_bool_str, is_bool_list, is_bool_tuple, is_int_int, is_int_bool, is_int_str, is_int_list, is_int_tuple, is_str_int, is_str_bool, is_str_str, is_str_list, is_str_tuple, is_list_int, is_list_bool, is_list_str, is_list_list, is_list_tuple, is_tuple_int, is_tuple_bool, is_tuple_str, is_tuple_list, is_tuple_tuple, is_dict_int, is_dict_bool, is_dict_str, is_dict_list, is_dict_tuple, isiDs, L2.atI, L2.ixN, big, asgS_if, nl_un, nl_val, nl_own, inD1, slD]; omega)
  have x1 := extreme1x k (ds := A) (r := B) hA ho (by simp [evSs, evS, evE, evEs, evB, evC, evO, evP, evI, callD, argSl, argSls, bors, wb, frz, frzs, sees, R.see, lockS, unlockS, asgR, retR, setD, asgT, unlockO, backA, endF, nIf, nIfs, isAnd, truD, RD.r, binD, cmpD, biD, ixD, Mn.Loc, keyD, meD, recv, gtD, apD, ↓evS_fr, ↓evE_lc, ↓evE_srt, eq_ss, eq_ii, eq_is, eq_si, ok_b, ok_t, bt, tb, in_b, in_t, in_i, gd0, gd1, gd2, gd3, is_NoneType_int, is_NoneType_bool, is_NoneType_str, is_NoneType_list, is_NoneType_tuple, is_bool_int, is_bool_bool, is_bool_str, is_bool_list, is_bool_tuple, is_int_int, is_int_bool, is_int_str, is_int_list, is_int_tuple, is_str_int, is_str_bool, is_str_str, is_str_list, is_str_tuple, is_list_int, is_list_bool, is_list_str, is_list_list, is_list_tuple, is_tuple_int, is_tuple_bool, is_tuple_str, is_tuple_list, is_tuple_tuple, is_dict_int, is_dict_bool, is_dict_str, is_dict_list, is_dict_tuple, isiDs, L2.atI, L2.ixN, big, asgS_if, nl_un, nl_val, nl_own, inD1, slD]; omega)
  obtain ⟨rk, hrk, e4⟩ := pick (k+3) p3 (xs := ranks) (by simp [evSs, evS, evE, evEs, evB, evC, evO, evP, evI, callD, argSl, argSls, bors, wb, frz, frzs, sees, R.see, lockS, unlockS, asgR, retR, setD, asgT, unlockO, backA, endF, nIf, nIfs, isAnd, truD, RD.r, binD, cmpD, biD, ixD, Mn.Loc, keyD, meD, recv, gtD, apD, ↓evS_fr, ↓evE_lc, ↓evE_srt, eq_ss, eq_ii, eq_is, eq_si, ok_b, ok_t, bt, tb, in_b, in_t, in_i, gd0, gd1, gd2, gd3, is_NoneType_int, is_NoneType_bool, is_NoneType_str, is_NoneType_list, is_NoneType_tuple, is_bool_int, is_bool_bool, is_bool_str, is_bool_list, is_bool_tuple, is_int_int, is_int_bool, is_int_str, is_int_list, is_int_tuple, is_str_int, is_str_bool, is_str_str, is_str_list, is_str_tuple, is_list_int, is_list_bool, is_list_str, is_list_list, is_list_tuple, is_tuple_int, is_tuple_bool, is_tuple_str, is_tuple_list, is_tuple_tuple, is_dict_int, is_dict_bool, is_dict_str, is_dict_list, is_dict_tuple, isiDs, L2.atI, L2.ixN, big, asgS_if, nl_un, nl_val, nl_own, inD1, slD, ranks]) (by simp [evSs, evS, evE, evEs, evB, evC, evO, evP, evI, callD, argSl, argSls, bors, wb, frz, frzs, sees, R.see, lockS, unlockS, asgR, retR, setD, asgT, unlockO, backA, endF, nIf, nIfs, isAnd, truD, RD.r, binD, cmpD, biD, ixD, Mn.Loc, keyD, meD, recv, gtD, apD, ↓evS_fr, ↓evE_lc, ↓evE_srt, eq_ss, eq_ii, eq_is, eq_si, ok_b, ok_t, bt, tb, in_b, in_t, in_i, gd0, gd1, gd2, gd3, is_NoneType_int, is_NoneType_bool, is_NoneType_str, is_NoneType_list, is_NoneType_tuple, is_bool_int, is_bool_bool, is_bool_str, is_bool_list, is_bool_tuple, is_int_int, is_int_bool, is_int_str, is_int_list, is_int_tuple, is_str_int, is_str_bool, is_str_str, is_str_list, is_str_tuple, is_list_int, is_list_bool, is_list_str, is_list_list, is_list_tuple, is_tuple_int, is_tuple_bool, is_tuple_str, is_tuple_list, is_tuple_tuple, is_dict_int, is_dict_bool, is_dict_str, is_dict_list, is_dict_tuple, isiDs, L2.atI, L2.ixN, big, asgS_if, nl_un, nl_val, nl_own, inD1, slD, ranks])
  obtain ⟨v, hv, e5⟩ := pick (k+3) (dn p3 9) (xs := [sT, .int 5, .int (-10000000000000000000000000000000000000000)]) (by simp [evSs, evS, evE, evEs, evB, evC, evO, evP, evI, callD, argSl, argSls, bors, wb, frz, frzs, sees, R.see, lockS, unlockS, asgR, retR, setD, asgT, unlockO, backA, endF, nIf, nIfs, isAnd, truD, RD.r, binD, cmpD, biD, ixD, Mn.Loc, keyD, meD, recv, gtD, apD, ↓evS_fr, ↓evE_lc, ↓evE_srt, eq_ss, eq_ii, eq_is, eq_si, ok_b, ok_t, bt, tb, in_b, in_t, in_i, gd0, gd1, gd2, gd3, is_NoneType_int, is_NoneType_bool, is_NoneType_str, is_NoneType_list, is_NoneType_tuple, is_bool_int, is_bool_bool, is_bool_str, is_bool_list, is_bool_tuple, is_int_int, is_int_bool, is_int_str, is_int_list, is_int_tuple, is_str_int, is_str_bool, is_str_str, is_str_list, is_str_tuple, is_list_int, is_list_bool, is_list_str, is_list_list, is_list_tuple, is_tuple_int, is_tuple_bool, is_tuple_str, is_tuple_list, is_tuple_tuple, is_dict_int, is_dict_bool, is_dict_str, is_dict_list, is_dict_tuple, isiDs, L2.atI, L2.ixN, big, asgS_if, nl_un, nl_val, nl_own, inD1, slD]) (by simp [evSs, evS, evE, evEs, evB, evC, evO, evP, evI, callD, argSl, argSls, bors, wb, frz, frzs, sees, R.see, lockS, unlockS, asgR, retR, setD, asgT, unlockO, backA, endF, nIf, nIfs, isAnd, truD, RD.r, binD, cmpD, biD, ixD, Mn.Loc, keyD, meD, recv, gtD, apD, ↓evS_fr, ↓evE_lc, ↓evE_srt, eq_ss, eq_ii, eq_is, eq_si, ok_b, ok_t, bt, tb, in_b, in_t, in_i, gd0, gd1, gd2, gd3, is_NoneType_int, is_NoneType_bool, is_NoneType_str, is_NoneType_list, is_NoneType_tuple, is_bool_int, is_bool_bool, is_bool_str, is_bool_list, is_bool_tuple, is_int_int, is_int_bool, is_int_str, is_int_list, is_int_tuple, is_str_int, is_str_bool, is_str_str, is_str_list, is_str_tuple, is_list_int, is_list_bool, is_list_str, is_list_list, is_list_tuple, is_tuple_int, is_tuple_bool, is_tuple_str, is_tuple_list, is_tuple_tuple, is_dict_int, is_dict_bool, is_dict_str, is_dict_list, is_dict_tuple, isiDs, L2.atI, L2.ixN, big, asgS_if, nl_un, nl_val, nl_own, inD1, slD])
  obtain ⟨w, hw, e6⟩ := pick (k+3) (dn (dn p3 9) 3) (xs := wrongs ds o m) (by simp [evSs, evS, evE, evEs, evB, evC, evO, evP, evI, callD, argSl, argSls, bors, wb, frz, frzs, sees, R.see, lockS, unlockS, asgR, retR, setD, asgT, unlockO, backA, endF, nIf, nIfs, isAnd, truD, RD.r, binD, cmpD, biD, ixD, Mn.Loc, keyD, meD, recv, gtD, apD, ↓evS_fr, ↓evE_lc, ↓evE_srt, eq_ss, eq_ii, eq_is, eq_si, ok_b, ok_t, bt, tb, in_b, in_t, in_i, gd0, gd1, gd2, gd3, is_NoneType_int, is_NoneType_bool, is_NoneType_str, is_NoneType_list, is_NoneType_tuple, is_bool_int, is_bool_bool, is_bool_str, is_bool_list, is_bool_tuple, is_int_int, is_int_bool, is_int_str, is_int_list, is_int_tuple, is_str_int, is_str_bool, is_str_str, is_str_list, is_str_tuple, is_list_int, is_list_bool, is_list_str, is_list_list, is_list_tuple, is_tuple_int, is_tuple_bool, is_tuple_str, is_tuple_list, is_tuple_tuple, is_dict_int, is_dict_bool, is_dict_str, is_dict_list, is_dict_tuple, isiDs, L2.atI, L2.ixN, big, asgS_if, nl_un, nl_val, nl_own, inD1, slD, wrongs]) (by simp [evSs, evS, evE, evEs, evB, evC, evO, evP, evI, callD, argSl, argSls, bors, wb, frz, frzs, sees, R.see, lockS, unlockS, asgR, retR, setD, asgT, unlockO, backA, endF, nIf, nIfs, isAnd, truD, RD.r, binD, cmpD, biD, ixD, Mn.Loc, keyD, meD, recv, gtD, apD, ↓evS_fr, ↓evE_lc, ↓evE_srt, eq_ss, eq_ii, eq_is, eq_si, ok_b, ok_t, bt, tb, in_b, in_t, in_i, gd0, gd1, gd2, gd3, is_NoneType_int, is_NoneType_bool, is_NoneType_str, is_NoneType_list, is_NoneType_tuple, is_bool_int, is_bool_bool, is_bool_str, is_bool_list, is_bool_tuple, is_int_int, is_int_bool, is_int_str, is_int_list, is_int_tuple, is_str_int, is_str_bool, is_str_str, is_str_list, is_str_tuple, is_list_int, is_list_bool, is_list_str, is_list_list, is_list_tuple, is_tuple_int, is_tuple_bool, is_tuple_str, is_tuple_list, is_tuple_tuple, is_dict_int, is_dict_bool, is_dict_str, is_dict_list, is_dict_tuple, isiDs, L2.atI, L2.ixN, big, asgS_if, nl_un, nl_val, nl_own, inD1, slD, wrongs])
  have tv : Th v := by
    simp [evSs, evS, evE, evEs, evB, evC, evO, evP, evI, callD, argSl, argSls, bors, wb, frz, frzs, sees, R.see, lockS, unlockS, asgR, retR, setD, asgT, unlockO, backA, endF, nIf, nIfs, isAnd, truD, RD.r, binD, cmpD, biD, ixD, Mn.Loc, keyD, meD, recv, gtD, apD, ↓evS_fr, ↓evE_lc, ↓evE_srt, eq_ss, eq_ii, eq_is, eq_si, ok_b, ok_t, bt, tb, in_b, in_t, in_i, gd0, gd1, gd2, gd3, is_NoneType_int, is_NoneType_bool, is_NoneType_str, is_NoneType_list, is_NoneType_tuple, is_bool_int, is_bool_bool, is_bool_str, is_bool_list, is_bool_tuple, is_int_int, is_int_bool, is_int_str, is_int_list, is_int_tuple, is_str_int, is_str_bool, is_str_str, is_str_list, is_str_tuple, is_list_int, is_list_bool, is_list_str, is_list_list, is_list_tuple, is_tuple_int, is_tuple_bool, is_tuple_str, is_tuple_list, is_tuple_tuple, is_dict_int, is_dict_bool, is_dict_str, is_dict_list, is_dict_tuple, isiDs, L2.atI, L2.ixN, big, asgS_if, nl_un, nl_val, nl_own, inD1, slD] at hv
    rcases hv with rfl | rfl | rfl
    · exact .top
    · exact .of (by decide) (by decide)
    · exact .of (by decide) (by decide)
  have s0 := sh3 (t := "value") (by simp [evSs, evS, evE, evEs, evB, evC, evO, evP, evI, callD, argSl, argSls, bors, wb, frz, frzs, sees, R.see, lockS, unlockS, asgR, retR, setD, asgT, unlockO, backA, endF, nIf, nIfs, isAnd, truD, RD.r, binD, cmpD, biD, ixD, Mn.Loc, keyD, meD, recv, gtD, apD, ↓evS_fr, ↓evE_lc, ↓evE_srt, eq_ss, eq_ii, eq_is, eq_si, ok_b, ok_t, bt, tb, in_b, in_t, in_i, gd0, gd1, gd2, gd3, is_NoneType_int, is_NoneType_bool, is_NoneType_str, is_NoneType_list, is_NoneType_tuple, is_bool_int, is_bool_bool, is_bool_str, is_bool_list, is_bool_tuple, is_int_int, is_int_bool, is_int_str, is_int_list, is_int_tuple, is_str_int, is_str_bool, is_str_str, is_str_list, is_str_tuple, is_list_int, is_list_bool, is_list_str, is_list_list, is_list_tuple, is_tuple_int, is_tuple_bool, is_tuple_str, is_tuple_list, is_tuple_tuple, is_dict_int, is_dict_bool, is_dict_str, is_dict_list, is_dict_tuple, isiDs, L2.atI, L2.ixN, big, asgS_if, nl_un, nl_val, nl_own, inD1, slD]) ((odd_sh ho).mono (n' := 2000) (m' := 6) (by omega) (by omega))
  have s1 := sh3 (t := "integer") (by simp [evSs, evS, evE, evEs, evB, evC, evO, evP, evI, callD, argSl, argSls, bors, wb, frz, frzs, sees, R.see, lockS, unlockS, asgR, retR, setD, asgT, unlockO, backA, endF, nIf, nIfs, isAnd, truD, RD.r, binD, cmpD, biD, ixD, Mn.Loc, keyD, meD, recv, gtD, apD, ↓evS_fr, ↓evE_lc, ↓evE_srt, eq_ss, eq_ii, eq_is, eq_si, ok_b, ok_t, bt, tb, in_b, in_t, in_i, gd0, gd1, gd2, gd3, is_NoneType_int, is_NoneType_bool, is_NoneType_str, is_NoneType_list, is_NoneType_tuple, is_bool_int, is_bool_bool, is_bool_str, is_bool_list, is_bool_tuple, is_int_int, is_int_bool, is_int_str, is_int_list, is_int_tuple, is_str_int, is_str_bool, is_str_str, is_str_list, is_str_tuple, is_list_int, is_list_bool, is_list_str, is_list_list, is_list_tuple, is_tuple_int, is_tuple_bool, is_tuple_str, is_tuple_list, is_tuple_tuple, is_dict_int, is_dict_bool, is_dict_str, is_dict_list, is_dict_tuple, isiDs, L2.atI, L2.ixN, big, asgS_if, nl_un, nl_val, nl_own, inD1, slD]) ((rank_sh hrk).mono (n' := 2000) (m' := 6) (by omega) (by omega))
  have s2 := sh3 (t := "values") (by simp [evSs, evS, evE, evEs, evB, evC, evO, evP, evI, callD, argSl, argSls, bors, wb, frz, frzs, sees, R.see, lockS, unlockS, asgR, retR, setD, asgT, unlockO, backA, endF, nIf, nIfs, isAnd, truD, RD.r, binD, cmpD, biD, ixD, Mn.Loc, keyD, meD, recv, gtD, apD, ↓evS_fr, ↓evE_lc, ↓evE_srt, eq_ss, eq_ii, eq_is, eq_si, ok_b, ok_t, bt, tb, in_b, in_t, in_i, gd0, gd1, gd2, gd3, is_NoneType_int, is_NoneType_bool, is_NoneType_str, is_NoneType_list, is_NoneType_tuple, is_bool_int, is_bool_bool, is_bool_str, is_bool_list, is_bool_tuple, is_int_int, is_int_bool, is_int_str, is_int_list, is_int_tuple, is_str_int, is_str_bool, is_str_str, is_str_list, is_str_tuple, is_list_int, is_list_bool, is_list_str, is_list_list, is_list_tuple, is_tuple_int, is_tuple_bool, is_tuple_str, is_tuple_list, is_tuple_tuple, is_dict_int, is_dict_bool, is_dict_str, is_dict_list, is_dict_tuple, isiDs, L2.atI, L2.ixN, big, asgS_if, nl_un, nl_val, nl_own, inD1, slD]) (wrong_sh h l ho hm hw)
  have s0' := s0.shd (by decide) (by decide)
  have s1' := s1.shd (by decide) (by decide)
  have s2' := s2.shd (by decide) (by decide)
  have y0 := at_least_o1 (k+1) (y := m) ho
  have y1 := at_least_o2 (k+1) (x := .int 3) (.of (by decide) (by decide)) ho
  have y2 := at_lev_odd (k+1) (y := sT) ho
  have y3 := at_lev_rank (k+1) tv hrk
  have y4 := wrong_lev (k+2) h l ho hm hw
  have y5 := odd_val (k+3) ho
  refine ⟨dn (dn (dn p3 9) 3) 9, ?_⟩
  simp [evSs, evS, evE, evEs, evB, evC, evO, evP, evI, callD, argSl, argSls, bors, wb, frz, frzs, sees, R.see, lockS, unlockS, asgR, retR, setD, asgT, unlockO, backA, endF, nIf, nIfs, isAnd, truD, RD.r, binD, cmpD, biD, ixD, Mn.Loc, keyD, meD, recv, gtD, apD, ↓evS_fr, ↓evE_lc, ↓evE_srt, eq_ss, eq_ii, eq_is, eq_si, ok_b, ok_t, bt, tb, in_b, in_t, in_i, gd0, gd1, gd2, gd3, is_NoneType_int, is_NoneType_bool, is_NoneType_str, is_NoneType_list, is_NoneType_tuple, is_bool_int, is_bool_bool, is_bool_str, is_bool_list, is_bool_tuple, is_int_int, is_int_bool, is_int_str, is_int_list, is_int_tuple, is_str_int, is_str_bool, is_str_str, is_str_list, is_str_tuple, is_list_int, is_list_bool, is_list_str, is_list_list, is_list_tuple, is_tuple_int, is_tuple_bool, is_tuple_str, is_tuple_list, is_tuple_tuple, is_dict_int, is_dict_bool, is_dict_str, is_dict_list, is_dict_tuple, isiDs, L2.atI, L2.ixN, big, asgS_if, nl_un, nl_val, nl_own, inD1, slD, ranks] at e4
  simp [evSs, evS, evE, evEs, evB, evC, evO, evP, evI, callD, argSl, argSls, bors, wb, frz, frzs, sees, R.see, lockS, unlockS, asgR, retR, setD, asgT, unlockO, backA, endF, nIf, nIfs, isAnd, truD, RD.r, binD, cmpD, biD, ixD, Mn.Loc, keyD, meD, recv, gtD, apD, ↓evS_fr, ↓evE_lc, ↓evE_srt, eq_ss, eq_ii, eq_is, eq_si, ok_b, ok_t, bt, tb, in_b, in_t, in_i, gd0, gd1, gd2, gd3, is_NoneType_int, is_NoneType_bool, is_NoneType_str, is_NoneType_list, is_NoneType_tuple, is_bool_int, is_bool_bool, is_bool_str, is_bool_list, is_bool_tuple, is_int_int, is_int_bool, is_int_str, is_int_list, is_int_tuple, is_str_int, is_str_bool, is_str_str, is_str_list, is_str_tuple, is_list_int, is_list_bool, is_list_str, is_list_list, is_list_tuple, is_tuple_int, is_tuple_bool, is_tuple_str, is_tuple_list, is_tuple_tuple, is_dict_int, is_dict_bool, is_dict_str, is_dict_list, is_dict_tuple, isiDs, L2.atI, L2.ixN, big, asgS_if, nl_un, nl_val, nl_own, inD1, slD] at e5
  simp [evSs, evS, evE, evEs, evB, evC, evO, evP, evI, callD, argSl, argSls, bors, wb, frz, frzs, sees, R.see, lockS, unlockS, asgR, retR, setD, asgT, unlockO, backA, endF, nIf, nIfs, isAnd, truD, RD.r, binD, cmpD, biD, ixD, Mn.Loc, keyD, meD, recv, gtD, apD, ↓evS_fr, ↓evE_lc, ↓evE_srt, eq_ss, eq_ii, eq_is, eq_si, ok_b, ok_t, bt, tb, in_b, in_t, in_i, gd0, gd1, gd2, gd3, is_NoneType_int, is_NoneType_bool, is_NoneType_str, is_NoneType_list, is_NoneType_tuple, is_bool_int, is_bool_bool, is_bool_str, is_bool_list, is_bool_tuple, is_int_int, is_int_bool, is_int_str, is_int_list, is_int_tuple, is_str_int, is_str_bool, is_str_str, is_str_list, is_str_tuple, is_list_int, is_list_bool, is_list_str, is_list_list, is_list_tuple, is_tuple_int, is_tuple_bool, is_tuple_str, is_tuple_list, is_tuple_tuple, is_dict_int, is_dict_bool, is_dict_str, is_dict_list, is_dict_tuple, isiDs, L2.atI, L2.ixN, big, asgS_if, nl_un, nl_val, nl_own, inD1, slD, wrongs] at e6
  have c1 : S.length < 1000000 := by omega
  have c2 : A.length + (B.length + 1) ≤ 999999 := by omega
  have c5 : ds.length ≤ 999999 := by omega
  have c3 : ds.length + 1 ≤ 1000000 := by omega
  have c4 : 1 + ds.length ≤ 1000000 := by omega
  simp [evSs, evS, evE, evEs, evB, evC, evO, evP, evI, callD, argSl, argSls, bors, wb, frz, frzs, sees, R.see, lockS, unlockS, asgR, retR, setD, asgT, unlockO, backA, endF, nIf, nIfs, isAnd, truD, RD.r, binD, cmpD, biD, ixD, Mn.Loc, keyD, meD, recv, gtD, apD, ↓evS_fr, ↓evE_lc, ↓evE_srt, eq_ss, eq_ii, eq_is, eq_si, ok_b, ok_t, bt, tb, in_b, in_t, in_i, gd0, gd1, gd2, gd3, is_NoneType_int, is_NoneType_bool, is_NoneType_str, is_NoneType_list, is_NoneType_tuple, is_bool_int, is_bool_bool, is_bool_str, is_bool_list, is_bool_tuple, is_int_int, is_int_bool, is_int_str, is_int_list, is_int_tuple, is_str_int, is_str_bool, is_str_str, is_str_list, is_str_tuple, is_list_int, is_list_bool, is_list_str, is_list_list, is_list_tuple, is_tuple_int, is_tuple_bool, is_tuple_str, is_tuple_list, is_tuple_tuple, is_dict_int, is_dict_bool, is_dict_str, is_dict_list, is_dict_tuple, isiDs, L2.atI, L2.ixN, big, asgS_if, nl_un, nl_val, nl_own, inD1, slD, fn30, b41, e1, e2, ct, dr, j0, j2, eA, eB, c1, c2, c3, c4, c5, x0, x1, tf0, tf1, tf2, s0', s1', s2', s0.so, s1.so, s2.so, y0, y1, y2, y3, y4, y5, shd_f, ok_f, eq3 s0.so, e4, e5, e6, putD]
end K11

-- P11m
set_option Elab.async false
set_option linter.all false
set_option maxRecDepth 100000
set_option maxHeartbeats 4000000
set_option autoImplicit false
namespace K11
open PySem Mn
theorem right (k : Nat) (p : Pot) : ∃ p' : Pot, rn (k+7) 31 [.own p.w] = some (.ret (.val (.bl true)) [.own p'.w]) := by
  have d0 := draw (k+5) p (m := 9) (by decide) (by decide)
  obtain ⟨a0, a1⟩ := dv_r p (m := 9) (by decide)
  obtain ⟨ds, h, l, p1, e1⟩ := things (k+2) (dn p 9) (n := dv p 9) a0 (by omega)
  have l8 : ds.length ≤ 8 := by omega
  have hT : ∀ d ∈ ds, Th d := fun d hd => (h d hd).th
  have e2 := pairs (k+1) h l8
  obtain ⟨p2, e3⟩ := levels_right (k+1) p1 h l8
  have d1 := draw (k+5) p2 (m := 5) (by decide) (by decide)
  obtain ⟨b0, b1⟩ := dv_r p2 (m := 5) (by decide)
  have ct := cut_to ds b0
  have e4 := extremes_right k (ds := ds.take (dv p2 5).toNat) (fun d hd => hT d (List.mem_of_mem_take hd)) (by have := List.length_take_le (dv p2 5).toNat ds; omega)
  obtain ⟨p3, e5⟩ := eight (k+1) (dn p2 5)
  obtain ⟨p4, e6⟩ := refused k p3 hT l8
  refine ⟨p4, ?_⟩
  simp [evSs, evS, evE, evEs, evB, evC, evO, evP, evI, callD, argSl, argSls, bors, wb, frz, frzs, sees, R.see, lockS, unlockS, asgR, retR, setD, asgT, unlockO, backA, endF, nIf, nIfs, isAnd, truD, RD.r, binD, cmpD, biD, ixD, Mn.Loc, keyD, meD, recv, gtD, apD, ↓evS_fr, ↓evE_lc, ↓evE_srt, eq_ss, eq_ii, eq_is, eq_si, ok_b, ok_t, bt, tb, in_b, in_t, in_i, gd0, gd1, gd2, gd3, is_NoneType_int, is_NoneType_bool, is_NoneType_str, is_NoneType_list, is_NoneType_tuple, is_bool_int, is_bool_bool, is_bool_str, is_bool_list, is_bool_tuple, is_int_int, is_int_bool, is_int_str, is_int_list, is_int_tuple, is_str_int, is_str_bool, is_str_str, is_str_list, is_str_tuple, is_list_int, is_list_bool, is_list_str, is_list_list, is_list_tuple, is_tuple_int, is_tuple_bool, is_tuple_str, is_tuple_list, is_tuple_tuple, is_dict_int, is_dict_bool, is_dict_str, is_dict_list, is_dict_tuple, isiDs, L2.atI, L2.ixN, big, asgS_if, nl_un, nl_val, nl_own, inD1, slD, fn31, b42, d0, e1]
  rw [lc_map (fun _ => .bl true) (ds.map fun _ => .bl true) .un rfl rfl (fun d hd => by simp [evSs, evS, evE, evEs, evB, evC, evO, evP, evI, callD, argSl, argSls, bors, wb, frz, frzs, sees, R.see, lockS, unlockS, asgR, retR, setD, asgT, unlockO, backA, endF, nIf, nIfs, isAnd, truD, RD.r, binD, cmpD, biD, ixD, Mn.Loc, keyD, meD, recv, gtD, apD, ↓evS_fr, ↓evE_lc, ↓evE_srt, eq_ss, eq_ii, eq_is, eq_si, ok_b, ok_t, bt, tb, in_b, in_t, in_i, gd0, gd1, gd2, gd3, is_NoneType_int, is_NoneType_bool, is_NoneType_str, is_NoneType_list, is_NoneType_tuple, is_bool_int, is_bool_bool, is_bool_str, is_bool_list, is_bool_tuple, is_int_int, is_int_bool, is_int_str, is_int_list, is_int_tuple, is_str_int, is_str_bool, is_str_str, is_str_list, is_str_tuple, is_list_int, is_list_bool, is_list_str, is_list_list, is_list_tuple, is_tuple_int, is_tuple_bool, is_tuple_str, is_tuple_list, is_tuple_tuple, is_dict_int, is_dict_bool, is_dict_str, is_dict_list, is_dict_tuple, isiDs, L2.atI, L2.ixN, big, asgS_if, nl_un, nl_val, nl_own, inD1, slD, lpC]) (fun d hd => by simp [evSs, evS, evE, evEs, evB, evC, evO, evP, evI, callD, argSl, argSls, bors, wb, frz, frzs, sees, R.see, lockS, unlockS, asgR, retR, setD, asgT, unlockO, backA, endF, nIf, nIfs, isAnd, truD, RD.r, binD, cmpD, biD, ixD, Mn.Loc, keyD, meD, recv, gtD, apD, ↓evS_fr, ↓evE_lc, ↓evE_srt, eq_ss, eq_ii, eq_is, eq_si, ok_b, ok_t, bt, tb, in_b, in_t, in_i, gd0, gd1, gd2, gd3, is_NoneType_int, is_NoneType_bool, is_NoneType_str, is_NoneType_list, is_NoneType_tuple, is_bool_int, is_bool_bool, is_bool_str, is_bool_list, is_bool_tuple, is_int_int, is_int_bool, is_int_str, is_int_list, is_int_tuple, is_str_int, is_str_bool, is_str_str, is_str_list, is_str_tuple, is_list_int, is_list_bool, is_list_str, is_list_list, is_list_tuple, is_tuple_int, is_tuple_bool, is_tuple_str, is_tuple_list, is_tuple_tuple, is_dict_int, is_dict_bool, is_dict_str, is_dict_list, is_dict_tuple, isiDs, L2.atI, L2.ixN, big, asgS_if, nl_un, nl_val, nl_own, inD1, slD, lpE, is_val (k+4) (hT d hd)]) (by omega)]
  simp [evSs, evS, evE, evEs, evB, evC, evO, evP, evI, callD, argSl, argSls, bors, wb, frz, frzs, sees, R.see, lockS, unlockS, asgR, retR, setD, asgT, unlockO, backA, endF, nIf, nIfs, isAnd, truD, RD.r, binD, cmpD, biD, ixD, Mn.Loc, keyD, meD, recv, gtD, apD, ↓evS_fr, ↓evE_lc, ↓evE_srt, eq_ss, eq_ii, eq_is, eq_si, ok_b, ok_t, bt, tb, in_b, in_t, in_i, gd0, gd1, gd2, gd3, is_NoneType_int, is_NoneType_bool, is_NoneType_str, is_NoneType_list, is_NoneType_tuple, is_bool_int, is_bool_bool, is_bool_str, is_bool_list, is_bool_tuple, is_int_int, is_int_bool, is_int_str, is_int_list, is_int_tuple, is_str_int, is_str_bool, is_str_str, is_str_list, is_str_tuple, is_list_int, is_list_bool, is_list_str, is_list_list, is_list_tuple, is_tuple_int, is_tuple_bool, is_tuple_str, is_tuple_list, is_tuple_tuple, is_dict_int, is_dict_bool, is_dict_str, is_dict_list, is_dict_tuple, isiDs, L2.atI, L2.ixN, big, asgS_if, nl_un, nl_val, nl_own, inD1, slD, asBls_m (fun _ => true), e2, e3, d1, ct, e4, e5, e6]
def pot0 (c k : Int) (h : 0 ≤ k) : Pot := ⟨if (if c < 0 then -c else c) - 1000000000000000000 > 0 then (if c < 0 then -c else c) - 1000000000000000000 else 0, ((if c < 0 then -c else c) % 2147483549 + 3) * (2 * k + 5) ^ 3 % 2147483477 + 1, by split <;> omega, by omega, by omega⟩
theorem pot (j : Nat) {ns : List Int} {k : Int} (h0 : 0 ≤ k) (h1 : k < 5) : ∃ p : Pot, rn (j+1) 16 [.val (.rol (ns.map D.int)), .val (.int k)] = some (.ret (.new p.w) [.val (.rol (ns.map D.int)), .val (.int k)]) := by
  have c1 : -18446744073709551616 < k := by omega
  have c2 : k < 18446744073709551616 := by omega
  have c3 : (2 * k + 5).natAbs < 18446744073709551616 := by omega
  by_cases q : k < ns.length
  · have q2 : k.toNat < ns.length := by omega
    refine ⟨pot0 (ns[k.toNat]) k h0, ?_⟩
    have m0 : 0 ≤ (if ns[k.toNat] < 0 then -ns[k.toNat] else ns[k.toNat]) % 2147483549 := by omega
    have m1 : (if ns[k.toNat] < 0 then -ns[k.toNat] else ns[k.toNat]) % 2147483549 < 2147483549 := by omega
    have m2 : -18446744073709551616 < (if ns[k.toNat] < 0 then -ns[k.toNat] else ns[k.toNat]) % 2147483549 + 3 := by omega
    have m3 : (if ns[k.toNat] < 0 then -ns[k.toNat] else ns[k.toNat]) % 2147483549 + 3 < 18446744073709551616 := by omega
    simp [evSs, evS, evE, evEs, evB, evC, evO, evP, evI, callD, argSl, argSls, bors, wb, frz, frzs, sees, R.see, lockS, unlockS, asgR, retR, setD, asgT, unlockO, backA, endF, nIf, nIfs, isAnd, truD, RD.r, binD, cmpD, biD, ixD, Mn.Loc, keyD, meD, recv, gtD, apD, ↓evS_fr, ↓evE_lc, ↓evE_srt, eq_ss, eq_ii, eq_is, eq_si, ok_b, ok_t, bt, tb, in_b, in_t, in_i, gd0, gd1, gd2, gd3, is_NoneType_int, is_NoneType_bool, is_NoneType_str, is_NoneType_list, is_NoneType_tuple, is_bool_int, is_bool_bool, is_bool_str, is_bool_list, is_bool_tuple, is_int_int, is_int_bool, is_int_str, is_int_list, is_int_tuple, is_str_int, is_str_bool, is_str_str, is_str_list, is_str_tuple, is_list_int, is_list_bool, is_list_str, is_list_list, is_list_tuple, is_tuple_int, is_tuple_bool, is_tuple_str, is_tuple_list, is_tuple_tuple, is_dict_int, is_dict_bool, is_dict_str, is_dict_list, is_dict_tuple, isiDs, L2.atI, L2.ixN, big, asgS_if, nl_un, nl_val, nl_own, inD1, slD, fn16, b27, c1, c2, c3, q, h0, q2, m2, m3, Pot.w, pot0]
  · refine ⟨pot0 (23 * k + 9) k h0, ?_⟩
    have m2 : -18446744073709551616 < (if 23 * k + 9 < 0 then -(23 * k + 9) else 23 * k + 9) % 2147483549 + 3 := by omega
    have m3 : (if 23 * k + 9 < 0 then -(23 * k + 9) else 23 * k + 9) % 2147483549 + 3 < 18446744073709551616 := by omega
    simp [evSs, evS, evE, evEs, evB, evC, evO, evP, evI, callD, argSl, argSls, bors, wb, frz, frzs, sees, R.see, lockS, unlockS, asgR, retR, setD, asgT, unlockO, backA, endF, nIf, nIfs, isAnd, truD, RD.r, binD, cmpD, biD, ixD, Mn.Loc, keyD, meD, recv, gtD, apD, ↓evS_fr, ↓evE_lc, ↓evE_srt, eq_ss, eq_ii, eq_is, eq_si, ok_b, ok_t, bt, tb, in_b, in_t, in_i, gd0, gd1, gd2, gd3, is_NoneType_int, is_NoneType_bool, is_NoneType_str, is_NoneType_list, is_NoneType_tuple, is_bool_int, is_bool_bool, is_bool_str, is_bool_list, is_bool_tuple, is_int_int, is_int_bool, is_int_str, is_int_list, is_int_tuple, is_str_int, is_str_bool, is_str_str, is_str_list, is_str_tuple, is_list_int, is_list_bool, is_list_str, is_list_list, is_list_tuple, is_tuple_int, is_tuple_bool, is_tuple_str, is_tuple_list, is_tuple_tuple, is_dict_int, is_dict_bool, is_dict_str, is_dict_list, is_dict_tuple, isiDs, L2.atI, L2.ixN, big, asgS_if, nl_un, nl_val, nl_own, inD1, slD, fn16, b27, c1, c2, c3, q, h0, m2, m3, Pot.w, pot0]
theorem law (k : Nat) (ns : List Int) (l : ns.length ≤ 63) : rn (k+8) 32 [.val (.rol (ns.map D.int))] = some (.ret (.val (.bl true)) [.val (.rol (ns.map D.int))]) := by
  have c0 : eqD (.lst [sB, sT, .str "no bound"]) (.lst [sB, sT, .str "no bound"]) = some true := by decide +kernel
  simp [evSs, evS, evE, evEs, evB, evC, evO, evP, evI, callD, argSl, argSls, bors, wb, frz, frzs, sees, R.see, lockS, unlockS, asgR, retR, setD, asgT, unlockO, backA, endF, nIf, nIfs, isAnd, truD, RD.r, binD, cmpD, biD, ixD, Mn.Loc, keyD, meD, recv, gtD, apD, ↓evS_fr, ↓evE_lc, ↓evE_srt, eq_ss, eq_ii, eq_is, eq_si, ok_b, ok_t, bt, tb, in_b, in_t, in_i, gd0, gd1, gd2, gd3, is_NoneType_int, is_NoneType_bool, is_NoneType_str, is_NoneType_list, is_NoneType_tuple, is_bool_int, is_bool_bool, is_bool_str, is_bool_list, is_bool_tuple, is_int_int, is_int_bool, is_int_str, is_int_list, is_int_tuple, is_str_int, is_str_bool, is_str_str, is_str_list, is_str_tuple, is_list_int, is_list_bool, is_list_str, is_list_list, is_list_tuple, is_tuple_int, is_tuple_bool, is_tuple_str, is_tuple_list, is_tuple_tuple, is_dict_int, is_dict_bool, is_dict_str, is_dict_list, is_dict_tuple, isiDs, L2.atI, L2.ixN, big, asgS_if, nl_un, nl_val, nl_own, inD1, slD, fn32, b43, c0]
  generalize hN : (if 1 < (if (5 : Int) < ns.length then (5 : Int) else ns.length) then (if (5 : Int) < ns.length then (5 : Int) else ns.length) else 1) = N
  have b0 : 0 ≤ N := by subst hN; split <;> (try split) <;> omega
  have b1 : N ≤ 5 := by subst hN; split <;> (try split) <;> omega
  have b2 : (-1000000 : Int) ≤ N := by omega
  have b3 : N ≤ (1000000 : Int) := by omega
  simp [evSs, evS, evE, evEs, evB, evC, evO, evP, evI, callD, argSl, argSls, bors, wb, frz, frzs, sees, R.see, lockS, unlockS, asgR, retR, setD, asgT, unlockO, backA, endF, nIf, nIfs, isAnd, truD, RD.r, binD, cmpD, biD, ixD, Mn.Loc, keyD, meD, recv, gtD, apD, ↓evS_fr, ↓evE_lc, ↓evE_srt, eq_ss, eq_ii, eq_is, eq_si, ok_b, ok_t, bt, tb, in_b, in_t, in_i, gd0, gd1, gd2, gd3, is_NoneType_int, is_NoneType_bool, is_NoneType_str, is_NoneType_list, is_NoneType_tuple, is_bool_int, is_bool_bool, is_bool_str, is_bool_list, is_bool_tuple, is_int_int, is_int_bool, is_int_str, is_int_list, is_int_tuple, is_str_int, is_str_bool, is_str_str, is_str_list, is_str_tuple, is_list_int, is_list_bool, is_list_str, is_list_list, is_list_tuple, is_tuple_int, is_tuple_bool, is_tuple_str, is_tuple_list, is_tuple_tuple, is_dict_int, is_dict_bool, is_dict_str, is_dict_list, is_dict_tuple, isiDs, L2.atI, L2.ixN, big, asgS_if, nl_un, nl_val, nl_own, inD1, slD, b2, b3]
  rw [lc_map (fun _ => .bl true) ((rngD 0 N.toNat).map fun _ => .bl true) .un rfl rfl (fun d hd => by simp [evSs, evS, evE, evEs, evB, evC, evO, evP, evI, callD, argSl, argSls, bors, wb, frz, frzs, sees, R.see, lockS, unlockS, asgR, retR, setD, asgT, unlockO, backA, endF, nIf, nIfs, isAnd, truD, RD.r, binD, cmpD, biD, ixD, Mn.Loc, keyD, meD, recv, gtD, apD, ↓evS_fr, ↓evE_lc, ↓evE_srt, eq_ss, eq_ii, eq_is, eq_si, ok_b, ok_t, bt, tb, in_b, in_t, in_i, gd0, gd1, gd2, gd3, is_NoneType_int, is_NoneType_bool, is_NoneType_str, is_NoneType_list, is_NoneType_tuple, is_bool_int, is_bool_bool, is_bool_str, is_bool_list, is_bool_tuple, is_int_int, is_int_bool, is_int_str, is_int_list, is_int_tuple, is_str_int, is_str_bool, is_str_str, is_str_list, is_str_tuple, is_list_int, is_list_bool, is_list_str, is_list_list, is_list_tuple, is_tuple_int, is_tuple_bool, is_tuple_str, is_tuple_list, is_tuple_tuple, is_dict_int, is_dict_bool, is_dict_str, is_dict_list, is_dict_tuple, isiDs, L2.atI, L2.ixN, big, asgS_if, nl_un, nl_val, nl_own, inD1, slD, lpC]) (fun d hd => by
    obtain ⟨i, hi, rfl⟩ := List.mem_map.mp hd
    have hi := List.mem_range.mp hi
    obtain ⟨p, e1⟩ := pot (k+6) (ns := ns) (k := 0 + (i : Nat)) (by omega) (by omega)
    obtain ⟨p2, e2⟩ := right k p
    simp [evSs, evS, evE, evEs, evB, evC, evO, evP, evI, callD, argSl, argSls, bors, wb, frz, frzs, sees, R.see, lockS, unlockS, asgR, retR, setD, asgT, unlockO, backA, endF, nIf, nIfs, isAnd, truD, RD.r, binD, cmpD, biD, ixD, Mn.Loc, keyD, meD, recv, gtD, apD, ↓evS_fr, ↓evE_lc, ↓evE_srt, eq_ss, eq_ii, eq_is, eq_si, ok_b, ok_t, bt, tb, in_b, in_t, in_i, gd0, gd1, gd2, gd3, is_NoneType_int, is_NoneType_bool, is_NoneType_str, is_NoneType_list, is_NoneType_tuple, is_bool_int, is_bool_bool, is_bool_str, is_bool_list, is_bool_tuple, is_int_int, is_int_bool, is_int_str, is_int_list, is_int_tuple, is_str_int, is_str_bool, is_str_str, is_str_list, is_str_tuple, is_list_int, is_list_bool, is_list_str, is_list_list, is_list_tuple, is_tuple_int, is_tuple_bool, is_tuple_str, is_tuple_list, is_tuple_tuple, is_dict_int, is_dict_bool, is_dict_str, is_dict_list, is_dict_tuple, isiDs, L2.atI, L2.ixN, big, asgS_if, nl_un, nl_val, nl_own, inD1, slD] at e1
    simp [evSs, evS, evE, evEs, evB, evC, evO, evP, evI, callD, argSl, argSls, bors, wb, frz, frzs, sees, R.see, lockS, unlockS, asgR, retR, setD, asgT, unlockO, backA, endF, nIf, nIfs, isAnd, truD, RD.r, binD, cmpD, biD, ixD, Mn.Loc, keyD, meD, recv, gtD, apD, ↓evS_fr, ↓evE_lc, ↓evE_srt, eq_ss, eq_ii, eq_is, eq_si, ok_b, ok_t, bt, tb, in_b, in_t, in_i, gd0, gd1, gd2, gd3, is_NoneType_int, is_NoneType_bool, is_NoneType_str, is_NoneType_list, is_NoneType_tuple, is_bool_int, is_bool_bool, is_bool_str, is_bool_list, is_bool_tuple, is_int_int, is_int_bool, is_int_str, is_int_list, is_int_tuple, is_str_int, is_str_bool, is_str_str, is_str_list, is_str_tuple, is_list_int, is_list_bool, is_list_str, is_list_list, is_list_tuple, is_tuple_int, is_tuple_bool, is_tuple_str, is_tuple_list, is_tuple_tuple, is_dict_int, is_dict_bool, is_dict_str, is_dict_list, is_dict_tuple, isiDs, L2.atI, L2.ixN, big, asgS_if, nl_un, nl_val, nl_own, inD1, slD, lpE, e1, e2]) (by rw [rng_len]; omega)]
  simp [evSs, evS, evE, evEs, evB, evC, evO, evP, evI, callD, argSl, argSls, bors, wb, frz, frzs, sees, R.see, lockS, unlockS, asgR, retR, setD, asgT, unlockO, backA, endF, nIf, nIfs, isAnd, truD, RD.r, binD, cmpD, biD, ixD, Mn.Loc, keyD, meD, recv, gtD, apD, ↓evS_fr, ↓evE_lc, ↓evE_srt, eq_ss, eq_ii, eq_is, eq_si, ok_b, ok_t, bt, tb, in_b, in_t, in_i, gd0, gd1, gd2, gd3, is_NoneType_int, is_NoneType_bool, is_NoneType_str, is_NoneType_list, is_NoneType_tuple, is_bool_int, is_bool_bool, is_bool_str, is_bool_list, is_bool_tuple, is_int_int, is_int_bool, is_int_str, is_int_list, is_int_tuple, is_str_int, is_str_bool, is_str_str, is_str_list, is_str_tuple, is_list_int, is_list_bool, is_list_str, is_list_list, is_list_tuple, is_tuple_int, is_tuple_bool, is_tuple_str, is_tuple_list, is_tuple_tuple, is_dict_int, is_dict_bool, is_dict_str, is_dict_list, is_dict_tuple, isiDs, L2.atI, L2.ixN, big, asgS_if, nl_un, nl_val, nl_own, inD1, slD, asBls_m (fun _ => true)]
end K11

-- K11d
set_option Elab.async false
set_option linter.all false
set_option maxRecDepth 100000
set_option maxHeartbeats 4000000
set_option autoImplicit false
namespace K11
open PySem PySem.Spec L2 Mn
def top (i : Nat) : Stmt := PySem.Challenge.pw_heldranks_k11_values_levels_and_extremes.main.body.getD i (.Pass ⟨0, 0, 0, 0⟩)
theorem e10 : upSs gam n10 b10 = defBody (top 10) := rfl
def d10 : DefI gam := { x := (Str.ofString "is_integer"), st := top 10, F := ⟨1, 1, false, b10⟩, N := n10, ps := [(Str.ofString "value")], lm := false, ks := [], S := ⟨rfl, rfl, rfl, by decide +kernel, rfl, by decide +kernel, by decide +kernel⟩, wf := by decide +kernel, eb := e10, ns := rfl, np := rfl, bo := fun _ _ _ _ _ _ => ⟨(fun _ s us hl => match us, hl with | [_], _ => .of_eq rfl), (fun z => by cases z), (fun _ h => by cases h)⟩ }
theorem e11 : upSs gam n11 b11 = defBody (top 11) := rfl
def d11 : DefI gam := { x := (Str.ofString "is_end"), st := top 11, F := ⟨1, 1, false, b11⟩, N := n11, ps := [(Str.ofString "value")], lm := false, ks := [], S := ⟨rfl, rfl, rfl, by decide +kernel, rfl, by decide +kernel, by decide +kernel⟩, wf := by decide +kernel, eb := e11, ns := rfl, np := rfl, bo := fun _ _ _ _ _ _ => ⟨(fun _ s us hl => match us, hl with | [_], _ => .of_eq rfl), (fun z => by cases z), (fun _ h => by cases h)⟩ }
theorem e12 : upSs gam n12 b12 = defBody (top 12) := rfl
def d12 : DefI gam := { x := (Str.ofString "is_list"), st := top 12, F := ⟨1, 1, false, b12⟩, N := n12, ps := [(Str.ofString "value")], lm := false, ks := [], S := ⟨rfl, rfl, rfl, by decide +kernel, rfl, by decide +kernel, by decide +kernel⟩, wf := by decide +kernel, eb := e12, ns := rfl, np := rfl, bo := fun _ _ _ _ _ _ => ⟨(fun _ s us hl => match us, hl with | [_], _ => .of_eq rfl), (fun z => by cases z), (fun _ h => by cases h)⟩ }
theorem e13 : upSs gam n13 b13 = defBody (top 13) := rfl
def d13 : DefI gam := { x := (Str.ofString "is_value"), st := top 13, F := ⟨1, 1, false, b13⟩, N := n13, ps := [(Str.ofString "value")], lm := false, ks := [], S := ⟨rfl, rfl, rfl, by decide +kernel, rfl, by decide +kernel, by decide +kernel⟩, wf := by decide +kernel, eb := e13, ns := rfl, np := rfl, bo := fun _ _ _ _ _ _ => ⟨(fun _ s us hl => match us, hl with | [_], _ => .of_eq rfl), (fun z => by cases z), (fun _ h => by cases h)⟩ }
theorem e14 : upSs gam n14 b14 = defBody (top 14) := rfl
def d14 : DefI gam := { x := (Str.ofString "want_value"), st := top 14, F := ⟨1, 1, false, b14⟩, N := n14, ps := [(Str.ofString "value")], lm := false, ks := [], S := ⟨rfl, rfl, rfl, by decide +kernel, rfl, by decide +kernel, by decide +kernel⟩, wf := by decide +kernel, eb := e14, ns := rfl, np := rfl, bo := fun _ _ _ _ _ _ => ⟨(fun _ s us hl => match us, hl with | [_], _ => .of_eq rfl), (fun z => by cases z), (fun _ h => by cases h)⟩ }
theorem e15 : upSs gam n15 b15 = defBody (top 15) := rfl
def d15 : DefI gam := { x := (Str.ofString "want_integer"), st := top 15, F := ⟨1, 1, false, b15⟩, N := n15, ps := [(Str.ofString "value")], lm := false, ks := [], S := ⟨rfl, rfl, rfl, by decide +kernel, rfl, by decide +kernel, by decide +kernel⟩, wf := by decide +kernel, eb := e15, ns := rfl, np := rfl, bo := fun _ _ _ _ _ _ => ⟨(fun _ s us hl => match us, hl with | [_], _ => .of_eq rfl), (fun z => by cases z), (fun _ h => by cases h)⟩ }
theorem e16 : upSs gam n16 b16 = defBody (top 16) := rfl
def d16 : DefI gam := { x := (Str.ofString "is_not_less"), st := top 16, F := ⟨2, 2, false, b16⟩, N := n16, ps := [(Str.ofString "one"), (Str.ofString "other")], lm := false, ks := [], S := ⟨rfl, rfl, rfl, by decide +kernel, rfl, by decide +kernel, by decide +kernel⟩, wf := by decide +kernel, eb := e16, ns := rfl, np := rfl, bo := fun _ _ _ _ _ _ => ⟨(fun _ s us hl => match us, hl with | [_, _], _ => .of_eq rfl), (fun z => by cases z), (fun _ h => by cases h)⟩ }
theorem e17 : upSs gam n17 b17 = defBody (top 17) := rfl
def d17 : DefI gam := { x := (Str.ofString "least_of"), st := top 17, F := ⟨1, 3, false, b17⟩, N := n17, ps := [(Str.ofString "values")], lm := false, ks := [], S := ⟨rfl, rfl, rfl, by decide +kernel, rfl, by decide +kernel, by decide +kernel⟩, wf := by decide +kernel, eb := e17, ns := rfl, np := rfl, bo := fun _ _ _ _ _ _ => ⟨(fun _ s us hl => match us, hl with | [_], _ => .of_eq rfl), (fun z => by cases z), (fun _ h => by cases h)⟩ }
theorem e18 : upSs gam n18 b18 = defBody (top 18) := rfl
def d18 : DefI gam := { x := (Str.ofString "greatest_of"), st := top 18, F := ⟨1, 3, false, b18⟩, N := n18, ps := [(Str.ofString "values")], lm := false, ks := [], S := ⟨rfl, rfl, rfl, by decide +kernel, rfl, by decide +kernel, by decide +kernel⟩, wf := by decide +kernel, eb := e18, ns := rfl, np := rfl, bo := fun _ _ _ _ _ _ => ⟨(fun _ s us hl => match us, hl with | [_], _ => .of_eq rfl), (fun z => by cases z), (fun _ h => by cases h)⟩ }
theorem e19 : upSs gam n19 b19 = defBody (top 19) := rfl
def d19 : DefI gam := { x := (Str.ofString "end_at"), st := top 19, F := ⟨2, 2, false, b19⟩, N := n19, ps := [(Str.ofString "value"), (Str.ofString "level")], lm := false, ks := [], S := ⟨rfl, rfl, rfl, by decide +kernel, rfl, by decide +kernel, by decide +kernel⟩, wf := by decide +kernel, eb := e19, ns := rfl, np := rfl, bo := fun _ _ _ _ _ _ => ⟨(fun _ s us hl => match us, hl with | [_, _], _ => .of_eq rfl), (fun z => by cases z), (fun _ h => by cases h)⟩ }
theorem e20 : upSs gam n20 b20 = defBody (top 20) := rfl
def d20 : DefI gam := { x := (Str.ofString "integers_in"), st := top 20, F := ⟨1, 2, false, b20⟩, N := n20, ps := [(Str.ofString "values")], lm := false, ks := [], S := ⟨rfl, rfl, rfl, by decide +kernel, rfl, by decide +kernel, by decide +kernel⟩, wf := by decide +kernel, eb := e20, ns := rfl, np := rfl, bo := fun _ _ _ _ _ _ => ⟨(fun _ s us hl => match us, hl with | [_], _ => .of_eq rfl), (fun z => by cases z), (fun _ h => by cases h)⟩ }
theorem e21 : upSs gam n21 b21 = defBody (top 21) := rfl
def d21 : DefI gam := { x := (Str.ofString "is_at_least"), st := top 21, F := ⟨2, 2, false, b21⟩, N := n21, ps := [(Str.ofString "one"), (Str.ofString "other")], lm := false, ks := [], S := ⟨rfl, rfl, rfl, by decide +kernel, rfl, by decide +kernel, by decide +kernel⟩, wf := by decide +kernel, eb := e21, ns := rfl, np := rfl, bo := fun _ _ _ _ _ _ => ⟨(fun _ s us hl => match us, hl with | [_, _], _ => .of_eq rfl), (fun z => by cases z), (fun _ h => by cases h)⟩ }
theorem e22 : upSs gam n22 b22 = defBody (top 22) := rfl
def d22 : DefI gam := { x := (Str.ofString "lesser_of"), st := top 22, F := ⟨1, 2, true, b22⟩, N := n22, ps := [(Str.ofString "values")], lm := false, ks := [], S := ⟨rfl, rfl, rfl, by decide +kernel, rfl, by decide +kernel, by decide +kernel⟩, wf := by decide +kernel, eb := e22, ns := rfl, np := rfl, bo := fun _ _ _ _ _ _ => ⟨(fun z => by cases z), (fun _ => ⟨(Str.ofString "values"), rfl, fun rest => by cases rest <;> rfl⟩), (fun _ h => by cases h)⟩ }
theorem e23 : upSs gam n23 b23 = defBody (top 23) := rfl
def d23 : DefI gam := { x := (Str.ofString "greater_of"), st := top 23, F := ⟨1, 2, true, b23⟩, N := n23, ps := [(Str.ofString "values")], lm := false, ks := [], S := ⟨rfl, rfl, rfl, by decide +kernel, rfl, by decide +kernel, by decide +kernel⟩, wf := by decide +kernel, eb := e23, ns := rfl, np := rfl, bo := fun _ _ _ _ _ _ => ⟨(fun z => by cases z), (fun _ => ⟨(Str.ofString "values"), rfl, fun rest => by cases rest <;> rfl⟩), (fun _ h => by cases h)⟩ }
theorem e24 : upSs gam n24 b24 = defBody (top 24) := rfl
def d24 : DefI gam := { x := (Str.ofString "at_level"), st := top 24, F := ⟨2, 2, false, b24⟩, N := n24, ps := [(Str.ofString "value"), (Str.ofString "level")], lm := false, ks := [[(Str.ofString "value"), (Str.ofString "level")]], S := ⟨rfl, rfl, rfl, by decide +kernel, rfl, by decide +kernel, by decide +kernel⟩, wf := by decide +kernel, eb := e24, ns := rfl, np := rfl, bo := fun _ _ _ _ _ _ => ⟨(fun _ s us hl => match us, hl with | [_, _], _ => .of_eq rfl), (fun z => by cases z), (fun k hk => by simp only [List.mem_cons, List.not_mem_nil, or_false] at hk; subst hk; exact ⟨rfl, rfl, fun s us hl => match us, hl with | [_, _], _ => .of_eq rfl⟩)⟩ }
theorem e25 : upSs gam n25 b25 = defBody (top 25) := rfl
def d25 : DefI gam := { x := (Str.ofString "levels_of"), st := top 25, F := ⟨1, 2, false, b25⟩, N := n25, ps := [(Str.ofString "values")], lm := false, ks := [], S := ⟨rfl, rfl, rfl, by decide +kernel, rfl, by decide +kernel, by decide +kernel⟩, wf := by decide +kernel, eb := e25, ns := rfl, np := rfl, bo := fun _ _ _ _ _ _ => ⟨(fun _ s us hl => match us, hl with | [_], _ => .of_eq rfl), (fun z => by cases z), (fun _ h => by cases h)⟩ }
theorem e27 : upSs gam n27 b27 = defBody (top 27) := rfl
def d27 : DefI gam := { x := (Str.ofString "_law_pot"), st := top 27, F := ⟨2, 3, false, b27⟩, N := n27, ps := [(Str.ofString "_law_script"), (Str.ofString "_law_k")], lm := false, ks := [], S := ⟨rfl, rfl, rfl, by decide +kernel, rfl, by decide +kernel, by decide +kernel⟩, wf := by decide +kernel, eb := e27, ns := rfl, np := rfl, bo := fun _ _ _ _ _ _ => ⟨(fun _ s us hl => match us, hl with | [_, _], _ => .of_eq rfl), (fun z => by cases z), (fun _ h => by cases h)⟩ }
theorem e28 : upSs gam n28 b28 = defBody (top 28) := rfl
def d28 : DefI gam := { x := (Str.ofString "_law_draw"), st := top 28, F := ⟨2, 3, false, b28⟩, N := n28, ps := [(Str.ofString "_law_pot_here"), (Str.ofString "_law_many")], lm := false, ks := [], S := ⟨rfl, rfl, rfl, by decide +kernel, rfl, by decide +kernel, by decide +kernel⟩, wf := by decide +kernel, eb := e28, ns := rfl, np := rfl, bo := fun _ _ _ _ _ _ => ⟨(fun _ s us hl => match us, hl with | [_, _], _ => .of_eq rfl), (fun z => by cases z), (fun _ h => by cases h)⟩ }
theorem e29 : upSs gam n29 b29 = defBody (top 29) := rfl
def d29 : DefI gam := { x := (Str.ofString "_law_pick"), st := top 29, F := ⟨2, 2, false, b29⟩, N := n29, ps := [(Str.ofString "_law_pot_here"), (Str.ofString "_law_some")], lm := false, ks := [], S := ⟨rfl, rfl, rfl, by decide +kernel, rfl, by decide +kernel, by decide +kernel⟩, wf := by decide +kernel, eb := e29, ns := rfl, np := rfl, bo := fun _ _ _ _ _ _ => ⟨(fun _ s us hl => match us, hl with | [_, _], _ => .of_eq rfl), (fun z => by cases z), (fun _ h => by cases h)⟩ }
theorem e30 : upSs gam n30 b30 = defBody (top 30) := rfl
def d30 : DefI gam := { x := (Str.ofString "_law_number"), st := top 30, F := ⟨1, 1, false, b30⟩, N := n30, ps := [(Str.ofString "_law_thing_here")], lm := false, ks := [], S := ⟨rfl, rfl, rfl, by decide +kernel, rfl, by decide +kernel, by decide +kernel⟩, wf := by decide +kernel, eb := e30, ns := rfl, np := rfl, bo := fun _ _ _ _ _ _ => ⟨(fun _ s us hl => match us, hl with | [_], _ => .of_eq rfl), (fun z => by cases z), (fun _ h => by cases h)⟩ }
theorem e31 : upSs gam n31 b31 = defBody (top 31) := rfl
def d31 : DefI gam := { x := (Str.ofString "_law_shown"), st := top 31, F := ⟨1, 1, false, b31⟩, N := n31, ps := [(Str.ofString "_law_number_here")], lm := false, ks := [], S := ⟨rfl, rfl, rfl, by decide +kernel, rfl, by decide +kernel, by decide +kernel⟩, wf := by decide +kernel, eb := e31, ns := rfl, np := rfl, bo := fun _ _ _ _ _ _ => ⟨(fun _ s us hl => match us, hl with | [_], _ => .of_eq rfl), (fun z => by cases z), (fun _ h => by cases h)⟩ }
theorem e32 : upSs gam n32 b32 = defBody (top 32) := rfl
def d32 : DefI gam := { x := (Str.ofString "_law_thing"), st := top 32, F := ⟨2, 5, false, b32⟩, N := n32, ps := [(Str.ofString "_law_pot_here"), (Str.ofString "_law_before")], lm := false, ks := [], S := ⟨rfl, rfl, rfl, by decide +kernel, rfl, by decide +kernel, by decide +kernel⟩, wf := by decide +kernel, eb := e32, ns := rfl, np := rfl, bo := fun _ _ _ _ _ _ => ⟨(fun _ s us hl => match us, hl with | [_, _], _ => .of_eq rfl), (fun z => by cases z), (fun _ h => by cases h)⟩ }
theorem e33 : upSs gam n33 b33 = defBody (top 33) := rfl
def d33 : DefI gam := { x := (Str.ofString "_law_things"), st := top 33, F := ⟨2, 5, false, b33⟩, N := n33, ps := [(Str.ofString "_law_pot_here"), (Str.ofString "_law_many")], lm := false, ks := [], S := ⟨rfl, rfl, rfl, by decide +kernel, rfl, by decide +kernel, by decide +kernel⟩, wf := by decide +kernel, eb := e33, ns := rfl, np := rfl, bo := fun _ _ _ _ _ _ => ⟨(fun _ s us hl => match us, hl with | [_, _], _ => .of_eq rfl), (fun z => by cases z), (fun _ h => by cases h)⟩ }
theorem e34 : upSs gam n34 b34 = defBody (top 34) := rfl
def d34 : DefI gam := { x := (Str.ofString "_law_odd"), st := top 34, F := ⟨1, 1, false, b34⟩, N := n34, ps := [(Str.ofString "_law_pot_here")], lm := false, ks := [], S := ⟨rfl, rfl, rfl, by decide +kernel, rfl, by decide +kernel, by decide +kernel⟩, wf := by decide +kernel, eb := e34, ns := rfl, np := rfl, bo := fun _ _ _ _ _ _ => ⟨(fun _ s us hl => match us, hl with | [_], _ => .of_eq rfl), (fun z => by cases z), (fun _ h => by cases h)⟩ }
theorem e35 : upSs gam n35 b35 = defBody (top 35) := rfl
def d35 : DefI gam := { x := (Str.ofString "_law_extreme"), st := top 35, F := ⟨2, 2, false, b35⟩, N := n35, ps := [(Str.ofString "_law_way"), (Str.ofString "_law_some")], lm := false, ks := [], S := ⟨rfl, rfl, rfl, by decide +kernel, rfl, by decide +kernel, by decide +kernel⟩, wf := by decide +kernel, eb := e35, ns := rfl, np := rfl, bo := fun _ _ _ _ _ _ => ⟨(fun _ s us hl => match us, hl with | [_, _], _ => .of_eq rfl), (fun z => by cases z), (fun _ h => by cases h)⟩ }
def tP : Nat → Pos := fun i => ([⟨123, 4, 123, 18⟩, ⟨123, 22, 123, 29⟩, ⟨123, 21, 123, 30⟩, ⟨123, 4, 123, 30⟩, ⟨125, 8, 125, 22⟩, ⟨125, 26, 125, 32⟩, ⟨125, 34, 125, 42⟩, ⟨125, 34, 125, 44⟩, ⟨125, 25, 125, 45⟩, ⟨125, 8, 125, 45⟩, ⟨124, 4, 131, 101⟩, ⟨132, 11, 132, 15⟩, ⟨132, 16, 132, 30⟩, ⟨132, 11, 132, 31⟩, ⟨132, 4, 132, 31⟩] : List Pos).getD i ⟨0, 0, 0, 0⟩
def tH0 : Hd := ⟨0, (Str.ofString "value"), fun i => ([⟨126, 11, 126, 23⟩, ⟨127, 8, 127, 22⟩, ⟨127, 26, 127, 33⟩, ⟨127, 35, 127, 36⟩, ⟨127, 35, 127, 42⟩, ⟨127, 44, 127, 54⟩, ⟨127, 55, 127, 56⟩, ⟨127, 58, 127, 67⟩, ⟨127, 44, 127, 68⟩, ⟨127, 73, 127, 83⟩, ⟨127, 84, 127, 85⟩, ⟨127, 87, 127, 97⟩, ⟨127, 73, 127, 98⟩, ⟨127, 44, 127, 98⟩, ⟨127, 25, 127, 99⟩, ⟨127, 8, 127, 99⟩, ⟨126, 4, 127, 99⟩] : List Pos).getD i ⟨0, 0, 0, 0⟩⟩
def tHs : List Hd := [⟨1, (Str.ofString "values"), fun i => ([⟨128, 11, 128, 24⟩, ⟨129, 8, 129, 22⟩, ⟨129, 26, 129, 34⟩, ⟨129, 36, 129, 37⟩, ⟨129, 36, 129, 43⟩, ⟨129, 45, 129, 55⟩, ⟨129, 56, 129, 57⟩, ⟨129, 59, 129, 68⟩, ⟨129, 45, 129, 69⟩, ⟨129, 74, 129, 84⟩, ⟨129, 85, 129, 86⟩, ⟨129, 88, 129, 98⟩, ⟨129, 74, 129, 99⟩, ⟨129, 45, 129, 99⟩, ⟨129, 25, 129, 100⟩, ⟨129, 8, 129, 100⟩, ⟨128, 4, 129, 100⟩] : List Pos).getD i ⟨0, 0, 0, 0⟩⟩, ⟨2, (Str.ofString "integer"), fun i => ([⟨130, 11, 130, 25⟩, ⟨131, 8, 131, 22⟩, ⟨131, 26, 131, 35⟩, ⟨131, 37, 131, 38⟩, ⟨131, 37, 131, 44⟩, ⟨131, 46, 131, 56⟩, ⟨131, 57, 131, 58⟩, ⟨131, 60, 131, 69⟩, ⟨131, 46, 131, 70⟩, ⟨131, 75, 131, 85⟩, ⟨131, 86, 131, 87⟩, ⟨131, 89, 131, 99⟩, ⟨131, 75, 131, 100⟩, ⟨131, 46, 131, 100⟩, ⟨131, 25, 131, 101⟩, ⟨131, 8, 131, 101⟩, ⟨130, 4, 131, 101⟩] : List Pos).getD i ⟨0, 0, 0, 0⟩⟩]
theorem t_eb : toldB gam tH0 tHs tP = defBody (top 36) := rfl
def tI : TldI gam := { st := top 36, h0 := tH0, hs := tHs, P := tP, eb := t_eb, S := ⟨rfl, rfl, rfl, by decide +kernel, rfl, by decide +kernel, by decide +kernel⟩, lH := by decide +kernel, lE := by decide +kernel, va := by first | exact .inl (by decide +kernel) | exact .inr (.inl (by decide +kernel)) | exact .inr (.inr (by decide +kernel)), gc := by decide +kernel, gi := by decide +kernel, gh := by decide +kernel, gv := by decide +kernel, gr := by decide +kernel, bo := fun _ _ _ _ _ _ us hl => match us, hl with | [_], _ => rfl, hc := by decide +kernel, db := by decide +kernel }
theorem e37 : upSs gam n37 b37 = defBody (top 37) := rfl
def d37 : DefI gam := { x := (Str.ofString "_law_pairs_right"), st := top 37, F := ⟨1, 8, false, b37⟩, N := n37, ps := [(Str.ofString "_law_things_here")], lm := false, ks := [], S := ⟨rfl, rfl, rfl, by decide +kernel, rfl, by decide +kernel, by decide +kernel⟩, wf := by decide +kernel, eb := e37, ns := rfl, np := rfl, bo := fun _ _ _ _ _ _ => ⟨(fun _ s us hl => match us, hl with | [_], _ => .of_eq rfl), (fun z => by cases z), (fun _ h => by cases h)⟩ }
theorem e38 : upSs gam n38 b38 = defBody (top 38) := rfl
def d38 : DefI gam := { x := (Str.ofString "_law_levels_right"), st := top 38, F := ⟨2, 8, false, b38⟩, N := n38, ps := [(Str.ofString "_law_pot_here"), (Str.ofString "_law_things_here")], lm := false, ks := [], S := ⟨rfl, rfl, rfl, by decide +kernel, rfl, by decide +kernel, by decide +kernel⟩, wf := by decide +kernel, eb := e38, ns := rfl, np := rfl, bo := fun _ _ _ _ _ _ => ⟨(fun _ s us hl => match us, hl with | [_, _], _ => .of_eq rfl), (fun z => by cases z), (fun _ h => by cases h)⟩ }
theorem e39 : upSs gam n39 b39 = defBody (top 39) := rfl
def d39 : DefI gam := { x := (Str.ofString "_law_extremes_right"), st := top 39, F := ⟨1, 4, false, b39⟩, N := n39, ps := [(Str.ofString "_law_some")], lm := false, ks := [], S := ⟨rfl, rfl, rfl, by decide +kernel, rfl, by decide +kernel, by decide +kernel⟩, wf := by decide +kernel, eb := e39, ns := rfl, np := rfl, bo := fun _ _ _ _ _ _ => ⟨(fun _ s us hl => match us, hl with | [_], _ => .of_eq rfl), (fun z => by cases z), (fun _ h => by cases h)⟩ }
theorem e40 : upSs gam n40 b40 = defBody (top 40) := rfl
def d40 : DefI gam := { x := (Str.ofString "_law_eight_right"), st := top 40, F := ⟨1, 5, false, b40⟩, N := n40, ps := [(Str.ofString "_law_pot_here")], lm := false, ks := [], S := ⟨rfl, rfl, rfl, by decide +kernel, rfl, by decide +kernel, by decide +kernel⟩, wf := by decide +kernel, eb := e40, ns := rfl, np := rfl, bo := fun _ _ _ _ _ _ => ⟨(fun _ s us hl => match us, hl with | [_], _ => .of_eq rfl), (fun z => by cases z), (fun _ h => by cases h)⟩ }
theorem e41 : upSs gam n41 b41 = defBody (top 41) := rfl
def d41 : DefI gam := { x := (Str.ofString "_law_refused_right"), st := top 41, F := ⟨2, 8, false, b41⟩, N := n41, ps := [(Str.ofString "_law_pot_here"), (Str.ofString "_law_things_here")], lm := true, ks := [], S := ⟨rfl, rfl, rfl, by decide +kernel, rfl, by decide +kernel, by decide +kernel⟩, wf := by decide +kernel, eb := e41, ns := rfl, np := rfl, bo := fun _ _ _ _ _ _ => ⟨(fun _ s us hl => match us, hl with | [_, _], _ => .of_eq rfl), (fun z => by cases z), (fun _ h => by cases h)⟩ }
theorem e42 : upSs gam n42 b42 = defBody (top 42) := rfl
def d42 : DefI gam := { x := (Str.ofString "_law_right"), st := top 42, F := ⟨1, 3, false, b42⟩, N := n42, ps := [(Str.ofString "_law_pot_here")], lm := false, ks := [], S := ⟨rfl, rfl, rfl, by decide +kernel, rfl, by decide +kernel, by decide +kernel⟩, wf := by decide +kernel, eb := e42, ns := rfl, np := rfl, bo := fun _ _ _ _ _ _ => ⟨(fun _ s us hl => match us, hl with | [_], _ => .of_eq rfl), (fun z => by cases z), (fun _ h => by cases h)⟩ }
theorem e43 : upSs gam n43 b43 = defBody (top 43) := rfl
def d43 : DefI gam := { x := (Str.ofString "law"), st := top 43, F := ⟨1, 2, false, b43⟩, N := n43, ps := [(Str.ofString "_law_script")], lm := false, ks := [], S := ⟨rfl, rfl, rfl, by decide +kernel, rfl, by decide +kernel, by decide +kernel⟩, wf := by decide +kernel, eb := e43, ns := rfl, np := rfl, bo := fun _ _ _ _ _ _ => ⟨(fun _ s us hl => match us, hl with | [_], _ => .of_eq rfl), (fun z => by cases z), (fun _ h => by cases h)⟩ }
def iI : IniI (Str.ofString "HeldError") := ⟨inClass (top 1) 0, (Str.ofString "HeldError.__init__"), ⟨5, 8, 5, 12⟩, ⟨5, 8, 5, 18⟩, ⟨5, 21, 5, 26⟩, ⟨5, 8, 5, 26⟩, rfl, ⟨rfl, rfl, rfl, by decide +kernel, rfl, by decide +kernel, by decide +kernel⟩, fun T kV doc pm an cdv ct us its hl hi => match us, its, hl, hi with | [_, _], [_], _, _ => ⟨_, rfl, rfl⟩⟩
def txt : Txt := { Γ := gam, dis := [some d10, some d11, some d12, some d13, some d14, some d15, some d16, some d17, some d18, some d19, some d20, some d21, some d22, some d23, some d24, some d25, some d27, some d28, some d29, some d30, some d31, some d32, some d33, some d34, some d35, none, some d37, some d38, some d39, some d40, some d41, some d42, some d43], gl := [.str "bottom", .str "top", .tup ["bottom", "top"], .str "no bound"], hld := (Str.ofString "HeldError") }
theorem txt_ok : txt.Ok := { nm := by decide +kernel, ks := ks_of (by decide +kernel), gl := rfl, cn := by decide +kernel }
end K11

-- K11z
set_option Elab.async false
set_option linter.all false
set_option maxRecDepth 100000
open PySem PySem.W PyProof.Rows
namespace K11
abbrev hk : PySem.W.Hook := Mn.hookM 5 txt.fa (tI.d :: iI.d :: txt.fn) txt.tf txt.ex
theorem evl (ns : List Int) (l : ns.length ≤ 63) : ∃ ps, Mn.run txt.fns (Mn.tell fun c => (Mn.tagL (tI.h0 :: tI.hs)).lookup c) txt.gd 8 32 [.val (.rol (ns.map Mn.D.int))] = some (.ret (.val (.bl true)) ps) := ⟨_, law 0 ns l⟩
end K11
set_option maxRecDepth 100000 in
set_option maxHeartbeats 0 in
theorem PySem.Challenge.cw_heldranks_k11_values_levels_and_extremes_holds : PySem.Challenge.rw_heldranks_k11_values_levels_and_extremes.Holds := by
  w_on; o_law; o_head (K11.hk); (case hw => w_witness2)
  refine Mn.mn_walkX (l := PySem.Challenge.rw_heldranks_k11_values_levels_and_extremes) (n := 63) (k := 8) rfl (by decide) rfl ⟨rfl, by decide, by decide⟩ ?F
  case F =>
    intro w mg fa h Y G hmg
    obtain ⟨K, KX, s, sys⟩ := Y
    exact ⟨K, KX, sys, Mn.law_at (t := K11.txt) K11.txt_ok K11.tI K11.iI rfl (f := 32) KX G s (by decide) hmg (by decide +kernel) (fun ns hl _ => K11.evl ns hl)⟩
