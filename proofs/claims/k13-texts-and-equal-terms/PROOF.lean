import PyProof.Rows.All
import HandS.ForMost
import HandS.Exc
import HandS.Lambda
import HandS.EndTab
import HandS.Star
import HandS.IsInst
import HandS.Style
import HandS.Strs
import HandS.TryMany
import HandS.ExcField
import HandS.ExcIs
import HandS.SortInts
import HandS.SetBool
import HandS.FStr
import KE.KOpsOwn
import HandS.Call
import PyProof.InstEq
import PyProof.CallStr
import PyProof.Rows.Range3
import PyProof.EqKinds
import PyProof.NeKinds
import PyProof.FactsAll.dict_1
import PyProof.FactsAll.list_1
import PyProof.FactsAll.tuple_1
import PyProof.FactsAll.bool_1
import HandS.Property
import PyProof.ReprRoads
import HandS.SetFor
import HandS.RaiseMore
import HandS.NestedK
import KE.KSuper
import KE.KExcIs
import HandS.ExcInit
import HandS.Defaults
import HandS.Words
import HandS.HeadHook4
import PyProof.Rows.StrBin
import PySem.Challenge.RW_heldranks_k13_texts_and_equal_terms
import HandS.Head0
-- Mn0
set_option Elab.async false
set_option linter.all false
set_option maxRecDepth 100000
set_option autoImplicit false
namespace Mn
open PySem PySem.Spec L2

/-! ## plain data -/
inductive D where
  | non | bl (b : Bool) | int (i : Int) | str (x : Str)
  | lst (xs : List D) | rol (xs : List D) | tup (xs : List D) | dct (kvs : List (Key × D)) | obj (C : Str) (fs : List (Str × D))
/-- what a slot holds: nothing known; a value that stays; a list of one's own; such a list while it is walked -/
inductive Sl where
  | un | val (d : D) | own (xs : List D) | lock (xs : List D)

/-- what the module's name x stands for -/
def gaK (K : PySem.W.Frag) (x : Str) : Addr := match PySem.W.nsIn K mainGlobals x with
  | some (some (.ref a)) => a
  | _ => 0
mutual
inductive Den (K : PySem.W.Frag) (G : Hp) : V → D → Prop
  | non : Den K G .non .non
  | bl (b : Bool) : Den K G (.bl b) (.bl b)
  | int (i : Int) : Den K G (.int i) (.int i)
  | str (x : Str) : Den K G (.str x) (.str x)
  | lst {a : Addr} {vs : List V} {xs : List D} : G a = some (.lst vs) → DenL K G vs xs → Den K G (.ref a) (.lst xs)
  | rol {a : Addr} {vs : List V} {xs : List D} : SqL K G a vs → DenL K G vs xs → Den K G (.ref a) (.rol xs)
  | tup {a : Addr} {vs : List V} {xs : List D} : SqT K G a vs → DenL K G vs xs → Den K G (.ref a) (.tup xs)
  | dct {a : Addr} {vs : List (Key × V)} {xs : List (Key × D)} : G a = some (.dK vs) → DenK K G vs xs → Den K G (.ref a) (.dct xs)
  | obj {a dx : Addr} {C : Str} {vs : List (Str × V)} {xs : List (Str × D)} : G a = some (.ins (gaK K C) dx vs) → G dx = some (.own a) → DenF K G vs xs → Den K G (.ref a) (.obj C xs)
inductive DenL (K : PySem.W.Frag) (G : Hp) : List V → List D → Prop
  | nil : DenL K G [] []
  | cons {v : V} {vs : List V} {d : D} {ds : List D} : Den K G v d → DenL K G vs ds → DenL K G (v :: vs) (d :: ds)
inductive DenK (K : PySem.W.Frag) (G : Hp) : List (Key × V) → List (Key × D) → Prop
  | nil : DenK K G [] []
  | cons {k : Key} {v : V} {vs : List (Key × V)} {d : D} {ds : List (Key × D)} : Den K G v d → DenK K G vs ds → DenK K G ((k, v) :: vs) ((k, d) :: ds)
inductive DenF (K : PySem.W.Frag) (G : Hp) : List (Str × V) → List (Str × D) → Prop
  | nil : DenF K G [] []
  | cons {k : Str} {v : V} {vs : List (Str × V)} {d : D} {ds : List (Str × D)} : Den K G v d → DenF K G vs ds → DenF K G ((k, v) :: vs) ((k, d) :: ds)
end

section
variable {K : PySem.W.Frag} {G G' H : Hp}
theorem sqL_mono {a : Addr} {vs : List V} (e : Same G G') (h : SqL K G a vs) : SqL K G' a vs := e.seq h
theorem sqT_mono {a : Addr} {vs : List V} (e : Same G G') (h : SqT K G a vs) : SqT K G' a vs := by
  rcases h with (h | ⟨o, h⟩) | h
  · exact .inl (.inl (e _ _ h))
  · exact .inl (.inr ⟨o, e _ _ h⟩)
  · exact .inr h
mutual
theorem Den.mono (e : Same G G') : ∀ {v : V} {d : D}, Den K G v d → Den K G' v d
  | _, _, .non => .non
  | _, _, .bl b => .bl b
  | _, _, .int i => .int i
  | _, _, .str x => .str x
  | _, _, .lst h t => .lst (e _ _ h) (DenL.mono e t)
  | _, _, .rol h t => .rol (sqL_mono e h) (DenL.mono e t)
  | _, _, .tup h t => .tup (sqT_mono e h) (DenL.mono e t)
  | _, _, .dct h t => .dct (e _ _ h) (DenK.mono e t)
  | _, _, .obj h h2 t => .obj (e _ _ h) (e _ _ h2) (DenF.mono e t)
theorem DenL.mono (e : Same G G') : ∀ {v : List V} {d : List D}, DenL K G v d → DenL K G' v d
  | _, _, .nil => .nil
  | _, _, .cons h t => .cons (Den.mono e h) (DenL.mono e t)
theorem DenK.mono (e : Same G G') : ∀ {v : List (Key × V)} {d : List (Key × D)}, DenK K G v d → DenK K G' v d
  | _, _, .nil => .nil
  | _, _, .cons h t => .cons (Den.mono e h) (DenK.mono e t)
theorem DenF.mono (e : Same G G') : ∀ {v : List (Str × V)} {d : List (Str × D)}, DenF K G v d → DenF K G' v d
  | _, _, .nil => .nil
  | _, _, .cons h t => .cons (Den.mono e h) (DenF.mono e t)
end
theorem DenL.length : ∀ {v : List V} {d : List D}, DenL K G v d → v.length = d.length
  | _, _, .nil => rfl
  | _, _, .cons _ t => congrArg Nat.succ t.length
theorem DenL.get : ∀ {vs : List V} {ds : List D} {i : Nat} {d : D}, DenL K G vs ds → ds[i]? = some d → ∃ v, vs[i]? = some v ∧ Den K G v d
  | _, _, _, _, .nil, e => by simp at e
  | _, _, 0, _, .cons h _, e => by simp at e; subst e; exact ⟨_, rfl, h⟩
  | _, _, i + 1, d, .cons _ t, e => by
    obtain ⟨v, h1, h2⟩ := DenL.get (i := i) (d := d) t (by simpa using e)
    exact ⟨v, by simpa using h1, h2⟩
theorem DenL.getV : ∀ {vs : List V} {ds : List D} {i : Nat} {v : V}, DenL K G vs ds → vs[i]? = some v → ∃ d, ds[i]? = some d ∧ Den K G v d
  | _, _, _, _, .nil, e => by simp at e
  | _, _, 0, _, .cons h _, e => by simp at e; subst e; exact ⟨_, rfl, h⟩
  | _, _, i + 1, d, .cons _ t, e => by
    obtain ⟨v, h1, h2⟩ := DenL.getV (i := i) (v := d) t (by simpa using e)
    exact ⟨v, by simpa using h1, h2⟩
theorem DenL.append : ∀ {vs ws : List V} {ds es : List D}, DenL K G vs ds → DenL K G ws es → DenL K G (vs ++ ws) (ds ++ es)
  | _, _, _, _, .nil, s => s
  | _, _, _, _, .cons h t, s => .cons h (t.append s)
theorem DenL.take : ∀ {vs : List V} {ds : List D} (n : Nat), DenL K G vs ds → DenL K G (vs.take n) (ds.take n)
  | _, _, 0, _ => .nil
  | _, _, _ + 1, .nil => .nil
  | _, _, n + 1, .cons h t => .cons h (t.take n)
theorem DenL.drop : ∀ {vs : List V} {ds : List D} (n : Nat), DenL K G vs ds → DenL K G (vs.drop n) (ds.drop n)
  | _, _, 0, h => h
  | _, _, _ + 1, .nil => .nil
  | _, _, n + 1, .cons _ t => t.drop n
theorem DenL.set {v : V} {d : D} (h : Den K G v d) : ∀ {vs : List V} {ds : List D} (i : Nat), DenL K G vs ds → DenL K G (vs.set i v) (ds.set i d)
  | _, _, _, .nil => .nil
  | _, _, 0, .cons _ t => .cons h t
  | _, _, i + 1, .cons q t => .cons q (DenL.set h i t)
theorem DenL.reverse : ∀ {vs : List V} {ds : List D}, DenL K G vs ds → DenL K G vs.reverse ds.reverse
  | _, _, .nil => .nil
  | _, _, .cons h t => by
    rw [List.reverse_cons, List.reverse_cons]
    exact t.reverse.append (.cons h .nil)
end

/-! ## slots, heaps -/
def Ow (s : Option Sl) (xs : List D) : Prop := s = some (.own xs) ∨ s = some (.lock xs)
def OwnAt (δ : List Sl) (σ : St) (i : Nat) (a : Addr) : Prop := (∃ xs, Ow δ[i]? xs) ∧ σ[i]? = some (some (.ref a))
def Own (δ : List Sl) (σ : St) (a : Addr) : Prop := ∃ i, OwnAt δ σ i a

/-- G: what stays for ever; H: all that is tracked; T: the tables of code objects -/
structure Rel (K : PySem.W.Frag) (T : List (Addr × Str)) (δ : List Sl) (σ : St) (G H : Hp) : Prop where
  len : σ.length = δ.length
  sub : Same G H
  ntb : ∀ b ps, G b ≠ some (.tbl ps)
  tab : LamX.Tabs T H
  val : ∀ (i : Nat) (d : D), δ[i]? = some (.val d) → ∃ v, σ[i]? = some (some v) ∧ Den K G v d
  own : ∀ (i : Nat) (xs : List D), Ow δ[i]? xs → ∃ a vs, σ[i]? = some (some (.ref a)) ∧ H a = some (.lst vs) ∧ G a = none ∧ DenL K G vs xs
  sep : ∀ (i j : Nat) (a : Addr), OwnAt δ σ i a → OwnAt δ σ j a → i = j

/-- from (O, G, H) to (O', G', H'): O, O' what may be changed -/
structure Go (O : Addr → Prop) (G H : Hp) (O' : Addr → Prop) (G' H' : Hp) : Prop where
  ex : Same G G'
  keep : ∀ b o, H b = some o → ¬ O b → (∀ ps, o ≠ .tbl ps) → H' b = some o
  live : ∀ b o, H b = some o → ∃ o', H' b = some o'
  new : ∀ b o, G' b = some o → G b = some o ∨ H b = none ∨ O b
  grow : ∀ b, O' b → O b ∨ H b = none

theorem Go.refl {O : Addr → Prop} {G H : Hp} : Go O G H O G H :=
  ⟨Same.refl G, fun _ _ h _ _ => h, fun _ o h => ⟨o, h⟩, fun _ _ h => .inl h, fun _ h => .inl h⟩
theorem Go.back {O O' : Addr → Prop} {G H G' H' : Hp} (g : Go O G H O' G' H') {b : Addr} (h : H' b = none) : H b = none := by
  cases q : H b with
  | none => rfl
  | some o =>
    obtain ⟨o', e⟩ := g.live b o q
    rw [h] at e
    cases e
theorem Go.trans {O O1 O2 : Addr → Prop} {G H G1 H1 G2 H2 : Hp} (a : Go O G H O1 G1 H1) (b : Go O1 G1 H1 O2 G2 H2) : Go O G H O2 G2 H2 where
  ex := a.ex.trans b.ex
  keep := fun c o h n t => b.keep c o (a.keep c o h n t) (fun z => (a.grow c z).elim n fun q => by rw [h] at q; cases q) t
  live := fun c o h => by
    obtain ⟨o1, e1⟩ := a.live c o h
    exact b.live c o1 e1
  new := fun c o h => by
    rcases b.new c o h with z | z | z
    · exact a.new c o z
    · exact .inr (.inl (a.back z))
    · rcases a.grow c z with z | z
      · exact .inr (.inr z)
      · exact .inr (.inl z)
  grow := fun c z => by
    rcases b.grow c z with z | z
    · exact a.grow c z
    · exact .inr (a.back z)

/-! ### what an expression gives: a value that stays; a new list; the list of a slot -/
inductive R where
  | val (d : D) | new (xs : List D) | bor (i : Nat)

def RV (K : PySem.W.Frag) (G H : Hp) (σ : St) (H0 : Hp) (v : V) : R → Prop
  | .val d => Den K G v d
  | .bor i => σ[i]? = some (some v)
  | .new xs => ∃ a vs, v = .ref a ∧ H a = some (.lst vs) ∧ G a = none ∧ H0 a = none ∧ DenL K G vs xs

/-- slots stay as they are; lists of one's own do not come up; locked ones stay -/
structure GoE (δ δ' : List Sl) (σ : St) (G H G' H' : Hp) : Prop where
  go : Go (Own δ σ) G H (Own δ' σ) G' H'
  less : ∀ (i : Nat) (xs : List D), Ow δ'[i]? xs → ∃ ys, Ow δ[i]? ys
  lock : ∀ (i : Nat) (xs : List D), δ[i]? = some (.lock xs) → δ'[i]? = some (.lock xs)
  fate : ∀ (i : Nat) (a : Addr), OwnAt δ σ i a → (∃ xs, Ow δ'[i]? xs) ∨ ∃ o, G' a = some o

section
variable {K : PySem.W.Frag} {T : List (Addr × Str)} {δ δ1 δ2 : List Sl} {σ : St} {G H G1 H1 G2 H2 H0 : Hp}
theorem GoE.refl : GoE δ δ σ G H G H := ⟨Go.refl, fun _ xs h => ⟨xs, h⟩, fun _ _ h => h, fun _ _ h => .inl h.1⟩
theorem GoE.trans (a : GoE δ δ1 σ G H G1 H1) (b : GoE δ1 δ2 σ G1 H1 G2 H2) : GoE δ δ2 σ G H G2 H2 :=
  ⟨a.go.trans b.go, fun i xs h => let ⟨ys, q⟩ := b.less i xs h; a.less i ys q, fun i xs h => b.lock i xs (a.lock i xs h), fun i x h => (a.fate i x h).elim (fun z => b.fate i x ⟨z, h.2⟩) fun ⟨o, z⟩ => .inr ⟨o, b.go.ex _ _ z⟩⟩
theorem GoE.sub (a : GoE δ δ1 σ G H G1 H1) {b : Addr} (h : Own δ1 σ b) : Own δ σ b := by
  obtain ⟨i, ⟨xs, h⟩, e⟩ := h
  exact ⟨i, a.less i xs h, e⟩
theorem Rel.live (r : Rel K T δ σ G H) {a : Addr} (h : Own δ σ a) : ∃ o, H a = some o := by
  obtain ⟨i, ⟨xs, h⟩, e⟩ := h
  obtain ⟨b, vs, e1, e2, _⟩ := r.own i xs h
  rw [e] at e1
  cases e1
  exact ⟨_, e2⟩
/-- what was given stays given while the rest is worked out -/
theorem RV.stay {v : V} {r : R} (h : RV K G1 H1 σ H v r) (R0 : Rel K T δ σ G H) (a : GoE δ δ1 σ G H G1 H1) (b : GoE δ1 δ2 σ G1 H1 G2 H2) : RV K G2 H2 σ H v r := by
  cases r with
  | val d => exact Den.mono b.go.ex h
  | bor i => exact h
  | new xs =>
    obtain ⟨p, vs, e, h1, h2, h3, h4⟩ := h
    have no : ¬ Own δ1 σ p := fun z => by
      obtain ⟨o, q⟩ := R0.live (a.sub z)
      rw [h3] at q
      cases q
    refine ⟨p, vs, e, b.go.keep p _ h1 no (fun ps z => by cases z), ?_, h3, h4.mono b.go.ex⟩
    cases q : G2 p with
    | none => rfl
    | some o =>
      rcases b.go.new p o q with z | z | z
      · rw [h2] at z; cases z
      · rw [h1] at z; cases z
      · exact absurd z no
theorem RV.back {v : V} {r : R} (h : RV K G2 H2 σ H1 v r) (a : GoE δ δ1 σ G H G1 H1) : RV K G2 H2 σ H v r := by
  cases r with
  | val d => exact h
  | bor i => exact h
  | new xs =>
    obtain ⟨p, vs, e, h1, h2, h3, h4⟩ := h
    exact ⟨p, vs, e, h1, h2, a.go.back h3, h4⟩
end

/-! ### what is seen of an operand at last -/
def R.see (δ : List Sl) : R → Option D
  | .val d => some d
  | .new xs => some (.lst xs)
  | .bor i => match δ[i]? with
    | some (.val d) => some d
    | some (.own xs) => some (.lst xs)
    | some (.lock xs) => some (.lst xs)
    | _ => none
/-- v is d now -/
def See (K : PySem.W.Frag) (G H : Hp) (v : V) (d : D) : Prop := Den K G v d ∨ ∃ a vs xs, v = .ref a ∧ d = .lst xs ∧ H a = some (.lst vs) ∧ DenL K G vs xs

section
variable {K : PySem.W.Frag} {T : List (Addr × Str)} {δ δ1 δ2 : List Sl} {σ : St} {G H G1 H1 G2 H2 H0 : Hp} {v : V} {d : D}
theorem RV.see {r : R} (h : RV K G H σ H0 v r) (R0 : Rel K T δ σ G H) (e : r.see δ = some d) : See K G H v d := by
  cases r with
  | val d' =>
    cases e
    exact .inl h
  | new xs =>
    cases e
    obtain ⟨p, vs, e, h1, h2, h3, h4⟩ := h
    exact .inr ⟨p, vs, xs, e, rfl, h1, h4⟩
  | bor i =>
    have h : σ[i]? = some (some v) := h
    unfold R.see at e
    dsimp only at e
    split at e
    · rename_i d' q
      cases e
      obtain ⟨v', h1, h2⟩ := R0.val i _ q
      rw [h] at h1
      cases h1
      exact .inl h2
    · rename_i xs q
      cases e
      obtain ⟨a, vs, h1, h2, h3, h4⟩ := R0.own i xs (.inl q)
      rw [h] at h1
      cases h1
      exact .inr ⟨a, vs, xs, rfl, rfl, h2, h4⟩
    · rename_i xs q
      cases e
      obtain ⟨a, vs, h1, h2, h3, h4⟩ := R0.own i xs (.inr q)
      rw [h] at h1
      cases h1
      exact .inr ⟨a, vs, xs, rfl, rfl, h2, h4⟩
    · cases e
theorem See.int {i : Int} (h : See K G H v (.int i)) : v = .int i := by
  rcases h with h | ⟨_, _, _, _, e, _⟩
  · cases h; rfl
  · cases e
theorem See.str {x : Str} (h : See K G H v (.str x)) : v = .str x := by
  rcases h with h | ⟨_, _, _, _, e, _⟩
  · cases h; rfl
  · cases e
theorem See.bl {x : Bool} (h : See K G H v (.bl x)) : v = .bl x := by
  rcases h with h | ⟨_, _, _, _, e, _⟩
  · cases h; rfl
  · cases e
theorem See.non (h : See K G H v .non) : v = .non := by
  rcases h with h | ⟨_, _, _, _, e, _⟩
  · cases h; rfl
  · cases e
theorem See.lst {xs : List D} (s : Same G H) (h : See K G H v (.lst xs)) : ∃ a vs, v = .ref a ∧ H a = some (.lst vs) ∧ DenL K G vs xs := by
  rcases h with h | ⟨a, vs, ys, e1, e2, h1, h2⟩
  · cases h with
    | lst h t => exact ⟨_, _, rfl, s _ _ h, t⟩
  · cases e2
    exact ⟨a, vs, e1, h1, h2⟩
theorem See.rol {xs : List D} (s : Same G H) (h : See K G H v (.rol xs)) : ∃ a vs, v = .ref a ∧ SqL K H a vs ∧ DenL K G vs xs := by
  rcases h with h | ⟨a, vs, ys, e1, e2, h1, h2⟩
  · cases h with
    | rol h t => exact ⟨_, _, rfl, sqL_mono s h, t⟩
  · cases e2
theorem See.tup {xs : List D} (s : Same G H) (h : See K G H v (.tup xs)) : ∃ a vs, v = .ref a ∧ SqT K H a vs ∧ DenL K G vs xs := by
  rcases h with h | ⟨a, vs, ys, e1, e2, h1, h2⟩
  · cases h with
    | tup h t => exact ⟨_, _, rfl, sqT_mono s h, t⟩
  · cases e2
theorem See.dct {xs : List (Key × D)} (s : Same G H) (h : See K G H v (.dct xs)) : ∃ a vs, v = .ref a ∧ H a = some (.dK vs) ∧ DenK K G vs xs := by
  rcases h with h | ⟨a, vs, ys, e1, e2, h1, h2⟩
  · cases h with
    | dct h t => exact ⟨_, _, rfl, s _ _ h, t⟩
  · cases e2
/-- any of the three sequences -/
theorem See.seqL {xs : List D} (s : Same G H) (h : See K G H v (.lst xs)) : ∃ a vs, v = .ref a ∧ SqL K H a vs ∧ DenL K G vs xs := by
  obtain ⟨a, vs, e, h1, h2⟩ := h.lst s
  exact ⟨a, vs, e, .inl (.inl h1), h2⟩
end
end Mn

-- Mn1
set_option Elab.async false
set_option linter.all false
set_option maxRecDepth 100000
set_option autoImplicit false
namespace Mn
open PySem PySem.Spec L2

/-! ## the small language: as PySem's, names resolved -/
/-- built-in functions by name -/
inductive Bi where
  | len | abs | max | min | int | divmod | repr | all | any | sorted | tuple | list | str
def Bi.nm : Bi → Str
  | .len => "len" | .abs => "abs" | .max => "max" | .min => "min" | .int => "int" | .divmod => "divmod" | .repr => "repr" | .all => "all" | .any => "any" | .sorted => "sorted" | .tuple => "tuple" | .list => "list" | .str => "str"
/-- methods of built-in types by name -/
inductive Me where
  | append | insert | get | pop | join
def Me.nm : Me → Str
  | .append => "append" | .insert => "insert" | .get => "get" | .pop => "pop" | .join => "join"

mutual
inductive E where
  | var (i : Nat) (p : Pos)
  | con (c : Const) (k : Nat) (p : Pos)
  | glo (g : Nat) (p : Pos)
  | bin (op : Operator) (a b : E) (p : Pos)
  | neg (a : E) (p : Pos)
  | nt (a : E) (p : Pos)
  | bop (op : BoolOp) (es : Es) (p : Pos)
  | cmp (op : CmpOp) (a b : E) (p : Pos)
  | ife (c a b : E) (p : Pos)
  | lst (es : Es) (p : Pos)
  | tup (es : Es) (k : Nat) (p : Pos)
  | dis (kvs : Ps) (p : Pos)
  | idx (a b : E) (p : Pos)
  | sli (a : E) (lo hi : Option E) (q p : Pos)
  | rev (a : E) (k : Nat) (p1 p2 q p : Pos)
  | call (f : Nat) (q : Pos) (es : Es) (p : Pos)
  | callk (f : Nat) (q : Pos) (ks : List (Str × Pos)) (es : Es) (p : Pos)
  | bi (b : Bi) (q : Pos) (es : Es) (p : Pos)
  | isi (a : E) (t : String) (tp q p : Pos)
  | isiT (a : E) (ts : List (String × Pos)) (k : Nat) (tp q p : Pos)
  | me (m : Me) (o : E) (q : Pos) (es : Es) (p : Pos)
  | lc (elt : E) (x : Nat) (xp : Pos) (it : It) (c : Es) (sc : Scope) (p : Pos)
  | srt (q : Pos) (elt : E) (x : Nat) (xp : Pos) (it : It) (c : Es) (sc : Scope) (p1 p : Pos)
  | srs (q1 q2 : Pos) (e : E) (p1 p : Pos)
  | att (a : E) (f fld : Str) (p : Pos)
  | isc (a : E) (c : Nat) (cp q p : Pos)
  | fst (es : Es) (p : Pos)
  | fmt (a : E) (rp : Bool) (p : Pos)
  | told (f : Nat) (q : Pos) (body : E) (ar : Arguments) (sc : Scope) (lp p : Pos)
inductive Es where
  | nil | cons (e : E) (es : Es)
inductive Ps where
  | nil | cons (k v : E) (ps : Ps)
inductive It where
  | seq (e : E) | rng1 (q : Pos) (e : E) (p : Pos) | rng2 (q : Pos) (a b : E) (p : Pos)
end
inductive Tg where
  | nm (i : Nat) (p : Pos) | sub (o i : E) (p : Pos)
mutual
inductive S where
  | asg (i : Nat) (q : Pos) (e : E) (p : Pos)
  | par (i j : Nat) (q1 q2 : Pos) (k : Nat) (tp : Pos) (a b : E) (k2 : Nat) (vp p : Pos)
  | unp (t1 t2 : Tg) (k : Nat) (tp : Pos) (e : E) (p : Pos)
  | sub (o i : E) (q : Pos) (e : E) (p : Pos)
  | exp (e : E) (p : Pos)
  | ret (e : E) (p : Pos)
  | iff (c : E) (a b : Ss) (p : Pos)
  | fr (x : Nat) (xp : Pos) (it : It) (b : Ss) (p : Pos)
  | raise (c : Nat) (q : Pos) (e : E) (p1 p : Pos)
  | par3 (i j l : Nat) (q1 q2 q3 : Pos) (k : Nat) (tp : Pos) (a b c : E) (k2 : Nat) (vp p : Pos)
  | frt (x y : Nat) (xp yp : Pos) (k : Nat) (tp : Pos) (it : It) (b : Ss) (p : Pos)
inductive Ss where
  | nil | cons (s : S) (ss : Ss)
end
/-- what is written of the module: names of defs, constants -/
structure Gam where
  fns : List Str
  gls : List Str
  cls : List Str
  kws : List (Nat × List Str)
  told : Str
  ocl : List Str
  mth : List ((Str × Str) × Nat) := []
  prp : List (Str × Str × Str) := []
  sub : List (Str × List Nat) := []

section
variable (Γ : Gam) (N : List Str)
def gname (l : List Str) (i : Nat) : Str := l.getD i "?"
mutual
def up : E → Expr
  | .var i p => .Name (gname N i) p
  | .con c k p => .Constant c k p
  | .glo g p => .Name (gname Γ.gls g) p
  | .bin op a b p => .BinOp (up a) op (up b) p
  | .neg a p => .UnaryOp .USub (up a) p
  | .nt a p => .UnaryOp .Not (up a) p
  | .bop op es p => .BoolOp op (ups es) p
  | .cmp op a b p => .Compare (up a) [op] [up b] p
  | .ife c a b p => .IfExp (up c) (up a) (up b) p
  | .lst es p => .List (ups es) p
  | .tup es k p => .Tuple (ups es) k p
  | .dis kvs p => .Dict (upk kvs) (upv kvs) p
  | .idx a b p => .Subscript (up a) (up b) p
  | .sli a lo hi q p => .Subscript (up a) (.Slice (upo lo) (upo hi) none q) p
  | .rev a k p1 p2 q p => .Subscript (up a) (.Slice none none (some (.UnaryOp .USub (.Constant (.int 1) k p1) p2)) q) p
  | .call f q es p => .Call (.Name (gname Γ.fns f) q) (ups es) [] p
  | .callk f q ks es p => .Call (.Name (gname Γ.fns f) q) [] ((ks.zip (ups es)).map fun x => ⟨some x.1.1, x.2, x.1.2⟩) p
  | .bi b q es p => .Call (.Name b.nm q) (ups es) [] p
  | .isi a t tp q p => .Call (.Name "isinstance" q) [up a, .Name (Str.ofString t) tp] [] p
  | .isiT a ts k tp q p => .Call (.Name "isinstance" q) [up a, .Tuple (ts.map fun t => .Name (Str.ofString t.1) t.2) k tp] [] p
  | .me m o q es p => .Call (.Attribute (up o) m.nm q) (ups es) [] p
  | .lc elt x xp it c sc p => .ListComp (up elt) [⟨.Name (gname N x) xp, upi it, ups c, 0⟩] sc p
  | .srt q elt x xp it c sc p1 p => .Call (.Name "sorted" q) [.SetComp (up elt) [⟨.Name (gname N x) xp, upi it, ups c, 0⟩] sc p1] [] p
  | .srs q1 q2 e p1 p => .Call (.Name "sorted" q1) [.Call (.Name "set" q2) [up e] [] p1] [] p
  | .att a f _ p => .Attribute (up a) f p
  | .isc a c cp q p => .Call (.Name "isinstance" q) [up a, .Name (gname Γ.ocl c) cp] [] p
  | .fst es p => .JoinedStr (ups es) p
  | .fmt a rp p => .FormattedValue (up a) (if rp then 114 else -1) none p
  | .told f q body ar sc lp p => .Call (.Name (gname Γ.fns f) q) [.Lambda ar (up body) sc lp] [] p
def ups : Es → List Expr
  | .nil => []
  | .cons e es => up e :: ups es
def upo : Option E → Option Expr
  | none => none
  | some e => some (up e)
def upk : Ps → List (Option Expr)
  | .nil => []
  | .cons k _ ps => some (up k) :: upk ps
def upv : Ps → List Expr
  | .nil => []
  | .cons _ v ps => up v :: upv ps
def upi : It → Expr
  | .seq e => up e
  | .rng1 q e p => .Call (.Name "range" q) [up e] [] p
  | .rng2 q a b p => .Call (.Name "range" q) [up a, up b] [] p
end
def upt : Tg → Expr
  | .nm i p => .Name (gname N i) p
  | .sub o i p => .Subscript (up Γ N o) (up Γ N i) p
mutual
def upS : S → Stmt
  | .asg i q e p => .Assign [.Name (gname N i) q] (up Γ N e) p
  | .par i j q1 q2 k tp a b k2 vp p => .Assign [.Tuple [.Name (gname N i) q1, .Name (gname N j) q2] k tp] (.Tuple [up Γ N a, up Γ N b] k2 vp) p
  | .unp t1 t2 k tp e p => .Assign [.Tuple [upt Γ N t1, upt Γ N t2] k tp] (up Γ N e) p
  | .sub o i q e p => .Assign [.Subscript (up Γ N o) (up Γ N i) q] (up Γ N e) p
  | .exp e p => .Expr (up Γ N e) p
  | .ret e p => .Return (some (up Γ N e)) p
  | .iff c a b p => .If (up Γ N c) (upSs a) (upSs b) p
  | .fr x xp it b p => .For (.Name (gname N x) xp) (upi Γ N it) (upSs b) [] p
  | .raise c q e p1 p => .Raise (some (.Call (.Name (gname Γ.cls c) q) [up Γ N e] [] p1)) none p
  | .par3 i j l q1 q2 q3 k tp a b c k2 vp p => .Assign [.Tuple [.Name (gname N i) q1, .Name (gname N j) q2, .Name (gname N l) q3] k tp] (.Tuple [up Γ N a, up Γ N b, up Γ N c] k2 vp) p
  | .frt x y xp yp k tp it b p => .For (.Tuple [.Name (gname N x) xp, .Name (gname N y) yp] k tp) (upi Γ N it) (upSs b) [] p
def upSs : Ss → List Stmt
  | .nil => []
  | .cons s ss => upS s :: upSs ss
end
end
end Mn

-- Mn2
set_option Elab.async false
set_option linter.all false
set_option maxRecDepth 100000
set_option autoImplicit false
namespace Mn
open PySem PySem.Spec L2

/-! ## operations on plain data -/
inductive RD where
  | val (d : D) | new (xs : List D)
def RD.r : RD → R
  | .val d => .val d
  | .new xs => .new xs
/-- the greatest length that is asked for -/
abbrev big : Nat := 1000000

def binD : Operator → D → D → Option RD
  | .Add, .int i, .int j => some (.val (.int (i + j)))
  | .Add, .str x, .str y => if x.length + y.length ≤ big then some (.val (.str (x ++ y))) else none
  | .Add, .lst xs, .lst ys => if xs.length + ys.length ≤ big then some (.new (xs ++ ys)) else none
  | .Sub, .int i, .int j => some (.val (.int (i - j)))
  | .Mult, .int i, .int j => if (-(2 ^ 64) < i ∧ i < 2 ^ 64) ∨ (-(2 ^ 64) < j ∧ j < 2 ^ 64) then some (.val (.int (i * j))) else none
  | .Mult, .lst xs, .int k => if 0 ≤ k ∧ k ≤ 1000 ∧ xs.length * k.toNat ≤ big then some (.new (List.replicate k.toNat xs).flatten) else none
  | .FloorDiv, .int i, .int j => if 0 < j ∧ j < 1073741824 then some (.val (.int (i / j))) else none
  | .Mod, .int i, .int j => if 0 < j then some (.val (.int (i % j))) else none
  | .Pow, .int i, .int j => if 0 ≤ j ∧ j ≤ 1000000 ∧ i.natAbs < 2 ^ 64 then some (.val (.int (i ^ j.toNat))) else none
  | _, _, _ => none

mutual
def D.py : D → PyData
  | .non => .none
  | .bl b => .bool b
  | .int i => .int i
  | .str x => .str x
  | .lst xs => .list (pys xs)
  | .rol xs => .list (pys xs)
  | .tup xs => .tuple (pys xs)
  | .dct kvs => .dict (pyk kvs)
  | .obj _ _ => .none
def pys : List D → List PyData
  | [] => []
  | d :: ds => d.py :: pys ds
def pyk : List (Key × D) → List (PyData × PyData)
  | [] => []
  | (.inl i, d) :: ds => (.int i, d.py) :: pyk ds
  | (.inr x, d) :: ds => (.str x, d.py) :: pyk ds
end
mutual
/-- none, asBls, asInts, texts, lists and tuples of such: what == is known of -/
def D.eqOk : D → Bool
  | .non => true
  | .bl _ => true
  | .int _ => true
  | .str _ => true
  | .lst xs => eqOks xs
  | .rol xs => eqOks xs
  | .tup xs => eqOks xs
  | .dct _ => false
  | .obj _ _ => false
def eqOks : List D → Bool
  | [] => true
  | d :: ds => d.eqOk && eqOks ds
end
mutual
/-- the same and dicts: what repr is known of -/
def D.shOk : D → Bool
  | .non => true
  | .bl _ => true
  | .int _ => true
  | .str _ => true
  | .lst xs => shOks xs
  | .rol xs => shOks xs
  | .tup xs => shOks xs
  | .dct kvs => shOkk kvs
  | .obj _ _ => false
def shOks : List D → Bool
  | [] => true
  | d :: ds => d.shOk && shOks ds
def shOkk : List (Key × D) → Bool
  | [] => true
  | (_, d) :: ds => d.shOk && shOkk ds
end
/-- one that has no parts, as HandS's flatV -/
def D.flat : D → Option V
  | .non => some .non
  | .bl b => some (.bl b)
  | .int i => some (.int i)
  | .str x => some (.str x)
  | _ => none
def flats : List D → Option (List V)
  | [] => some []
  | d :: ds => match d.flat, flats ds with
    | some v, some vs => some (v :: vs)
    | _, _ => none
def eqD (x y : D) : Option Bool := if x.eqOk && y.eqOk && SeqAt.shaped x.py && SeqAt.shaped y.py then some (PyData.eqv x.py y.py) else none
def inD (x : D) (ys : List D) : Option Bool := match x.flat, flats ys with
  | some v, some vs => some (inV v vs)
  | _, _ => none
def cmpD : CmpOp → D → D → Option Bool
  | .Lt, .int i, .int j => some (decide (i < j))
  | .LtE, .int i, .int j => some (decide (i ≤ j))
  | .Gt, .int i, .int j => some (decide (j < i))
  | .GtE, .int i, .int j => some (decide (j ≤ i))
  | .Eq, x, y => eqD x y
  | .NotEq, x, y => (eqD x y).map (!·)
  | .In, x, .lst ys => inD x ys
  | .In, x, .tup ys => inD x ys
  | .NotIn, x, .lst ys => (inD x ys).map (!·)
  | .NotIn, x, .tup ys => (inD x ys).map (!·)
  | .Is, .bl b, .bl c => some (decide (b = c))
  | .Is, .non, .non => some true
  | .Is, .bl _, .non => some false
  | .Is, .int _, .non => some false
  | .Is, .str _, .non => some false
  | .Is, .lst _, .non => some false
  | _, _, _ => none
def truD : D → Option Bool
  | .bl b => some b
  | _ => none
def keyD0 : D → Option Key
  | .int i => some (Sum.inl i)
  | .str s => some (Sum.inr s)
  | _ => none
def ixD : D → D → Option D
  | .lst xs, .int i => atI xs i
  | .rol xs, .int i => atI xs i
  | .tup xs, .int i => atI xs i
  | .dct kvs, d => (keyD0 d).bind fun key => (kvs.find? fun kv => decide (kv.1 = key)).map (·.2)
  | .str x, .int i => if x.length ≤ big then (atI x.cps.toList i).map fun c => .str ⟨#[c]⟩ else none
  | _, _ => none
def cutD (xs : List D) (lo hi : Option Int) : List D := (xs.drop (HT.sIx xs.length 0 lo)).take (HT.sIx xs.length xs.length hi - HT.sIx xs.length 0 lo)
def slD : D → Option Int → Option Int → Option RD
  | .lst xs, lo, hi => some (.new (cutD xs lo hi))
  | _, _, _ => none
def asInts : List D → Option (List Int)
  | [] => some []
  | .int i :: ds => (asInts ds).map (i :: ·)
  | _ :: _ => none
def asBls : List D → Option (List Bool)
  | [] => some []
  | .bl i :: ds => (asBls ds).map (i :: ·)
  | _ :: _ => none
/-- the greatest, the least of some asInts -/
def maxI : List Int → Int
  | [] => 0
  | [x] => x
  | x :: y :: r => if x < maxI (y :: r) then maxI (y :: r) else x
def minI : List Int → Int
  | [] => 0
  | [x] => x
  | x :: y :: r => if minI (y :: r) < x then minI (y :: r) else x
def insI (x : Int) : List Int → List Int
  | [] => [x]
  | y :: ys => if x < y then x :: y :: ys else if x = y then y :: ys else y :: insI x ys
/-- ascending, each once -/
def srtI (xs : List Int) : List Int := xs.foldl (fun acc x => insI x acc) []
def shD (d : D) : Option D := if d.shOk && d.py.showable && decide (d.py.shown.length ≤ big) && decide (d.py.depth ≤ 64) then some (.str d.py.shown) else none
def biD : Bi → List D → Option RD
  | .len, [.lst xs] => some (.val (.int xs.length))
  | .len, [.rol xs] => some (.val (.int xs.length))
  | .len, [.tup xs] => some (.val (.int xs.length))
  | .abs, [.int i] => some (.val (.int (if i < 0 then -i else i)))
  | .max, [.int i, .int j] => some (.val (.int (if j > i then j else i)))
  | .min, [.int i, .int j] => some (.val (.int (if j < i then j else i)))
  | .max, [.lst xs] => match asInts xs with
    | some (n :: ns) => some (.val (.int (maxI (n :: ns))))
    | _ => none
  | .min, [.lst xs] => match asInts xs with
    | some (n :: ns) => some (.val (.int (minI (n :: ns))))
    | _ => none
  | .int, [.int i] => some (.val (.int i))
  | .int, [.bl b] => some (.val (.int (if b then 1 else 0)))
  | .divmod, [.int i, .int j] => if 0 < j ∧ j < 1073741824 then some (.val (.tup [.int (i / j), .int (i % j)])) else none
  | .repr, [d] => (shD d).map .val
  | .str, [.str x] => some (.val (.str x))
  | .str, [.int i] => if -(10 ^ 100) < i ∧ i < 10 ^ 100 then some (.val (.str (toString i : String))) else none
  | .all, [.lst xs] => (asBls xs).map fun bs => .val (.bl (bs.all id))
  | .any, [.lst xs] => (asBls xs).map fun bs => .val (.bl (bs.any id))
  | .tuple, [.lst xs] => some (.val (.tup xs))
  | .list, [.lst xs] => some (.new xs)
  | .list, [.tup xs] => some (.new xs)
  | _, _ => none
def tyN : D → Option String
  | .non => some "NoneType"
  | .bl _ => some "bool"
  | .int _ => some "int"
  | .str _ => some "str"
  | .lst _ => some "list"
  | .tup _ => some "tuple"
  | .dct _ => some "dict"
  | _ => none
def isiD (d : D) (t : String) : Option Bool := (tyN d).bind fun n => kitB n t
def isiDs (d : D) : List String → Option Bool
  | [] => some false
  | t :: ts => match isiD d t with
    | some true => some true
    | some false => isiDs d ts
    | none => none

/-! ## the evaluator -/
inductive EO where
  | ok (r : R) (δ : List Sl) | exc (c : Nat) (d : D) (δ : List Sl)
inductive EA where
  | ok (rs : List R) (δ : List Sl) | exc (c : Nat) (d : D) (δ : List Sl)
/-- what a def gives back: and what became of its arguments -/
inductive CO where
  | ret (r : RD) (ps : List Sl) | exc (c : Nat) (d : D) (ps : List Sl)

/-- what was given becomes a value that stays -/
def frz (δ : List Sl) : R → Option (D × List Sl)
  | .val d => some (d, δ)
  | .new xs => some (.lst xs, δ)
  | .bor i => match δ[i]? with
    | some (.val d) => some (d, δ)
    | some (.own xs) => some (.lst xs, δ.set i (.val (.lst xs)))
    | _ => none
def frzs (δ : List Sl) : List R → Option (List D × List Sl)
  | [] => some ([], δ)
  | r :: rs => match frz δ r with
    | some (d, δ1) => match frzs δ1 rs with
      | some (ds, δ2) => some (d :: ds, δ2)
      | none => none
    | none => none
def sees (δ : List Sl) : List R → Option (List D)
  | [] => some []
  | r :: rs => match r.see δ, sees δ rs with
    | some d, some ds => some (d :: ds)
    | _, _ => none
def argSl (δ : List Sl) : R → Option Sl
  | .val d => some (.val d)
  | .new xs => some (.own xs)
  | .bor i => match δ[i]? with
    | some (.val d) => some (.val d)
    | some (.own xs) => some (.own xs)
    | some (.lock xs) => some (.lock xs)
    | _ => none
def argSls (δ : List Sl) : List R → Option (List Sl)
  | [] => some []
  | r :: rs => match argSl δ r, argSls δ rs with
    | some d, some ds => some (d :: ds)
    | _, _ => none
def bors : List R → List Nat
  | [] => []
  | .bor i :: rs => i :: bors rs
  | _ :: rs => bors rs
def wb (δ : List Sl) : List R → List Sl → List Sl
  | .bor i :: rs, s :: ss => wb (δ.set i s) rs ss
  | _ :: rs, _ :: ss => wb δ rs ss
  | _, _ => δ
def callD (cf : Nat → List Sl → Option CO) (f : Nat) (rs : List R) (δ : List Sl) : Option EO :=
  match argSls δ rs with
  | some as => if (bors rs).Nodup then match cf f as with
      | some (.ret r ps) => some (.ok r.r (wb δ rs ps))
      | some (.exc c d ps) => some (.exc c d (wb δ rs ps))
      | none => none
    else none
  | none => none
/-- xs.append(d), xs.insert(i, d) of a slot's own list -/
def apD (i : Nat) (r : R) (δ : List Sl) : Option EO := match frz δ r with
  | some (d, δ1) => match δ1[i]? with
    | some (.own xs) => if xs.length < big then some (.ok (.val .non) (δ1.set i (.own (xs ++ [d])))) else none
    | _ => none
  | none => none
def inD1 (i : Nat) (k r : R) (δ : List Sl) : Option EO := match k.see δ, frz δ r with
  | some (.int j), some (d, δ1) => match δ1[i]? with
    | some (.own xs) => if 0 ≤ j ∧ j ≤ xs.length ∧ xs.length < big then some (.ok (.val .non) (δ1.set i (.own (xs.take j.toNat ++ [d] ++ xs.drop j.toNat)))) else none
    | _ => none
  | _, _ => none
def strs0 : List D → Option (List Str)
  | [] => some []
  | .str x :: ds => (strs0 ds).map (x :: ·)
  | _ :: _ => none
def keyD : D → Option Key
  | .int i => some (Sum.inl i)
  | .str s => some (Sum.inr s)
  | _ => none
def putD (kvs : List (Key × D)) (k : Key) (d : D) : List (Key × D) :=
  if (kvs.any fun kv => decide (kv.1 = k)) = true then kvs.map (fun kv => if kv.1 = k then (kv.1, d) else kv) else kvs ++ [(k, d)]
def gtD (r k x : R) (δ : List Sl) : Option EO := match r.see δ, (k.see δ).bind keyD with
  | some (.dct kvs), some key => match (kvs.find? fun kv => decide (kv.1 = key)) with
    | some kv => some (.ok (.val kv.2) δ)
    | none => match frz δ x with
      | some (d, δ1) => some (.ok (.val d) δ1)
      | none => none
  | _, _ => none
/-- xs.pop(j), s.join(xs) -/
def popD (i : Nat) (k : R) (δ : List Sl) : Option EO := match k.see δ with
  | some (.int j) => match δ[i]? with
    | some (.own xs) => if 0 ≤ j ∧ j < big then match xs[j.toNat]? with
        | some d => some (.ok (.val d) (δ.set i (.own (xs.take j.toNat ++ xs.drop (j.toNat + 1)))))
        | none => none
      else none
    | _ => none
  | _ => none
def joinD (x : Str) : D → Option Str
  | .lst ds => (strs0 ds).bind fun ys => if (ys.map (·.length)).sum + ys.length * x.length ≤ big then some (Txt.join x ys) else none
  | _ => none
def meD : Me → R → List R → List Sl → Option EO
  | .append, .bor i, [r], δ => apD i r δ
  | .insert, .bor i, [k, r], δ => inD1 i k r δ
  | .get, r, [k, x], δ => gtD r k x δ
  | .pop, .bor i, [k], δ => popD i k δ
  | .join, .val (.str x), [r], δ => match (r.see δ).bind (joinD x) with
    | some y => some (.ok (.val (.str y)) δ)
    | none => none
  | _, _, _, _ => none
/-- what the method is of -/
def recv : Me → R → List Sl → Bool
  | .get, r, δ => match r.see δ with
    | some (.dct _) => true
    | _ => false
  | .join, r, δ => match r.see δ with
    | some (.str _) => true
    | _ => false
  | _, .bor i, δ => match δ[i]? with
    | some (.own _) => true
    | some (.lock _) => true
    | _ => false
  | _, _, _ => false
/-- one after the other: what a comprehension makes -/
def lcL (fe : List Sl → Option EO) (fc : List Sl → Option (Bool × List Sl)) (x : Nat) : List D → List Sl → List D → Option (List D × List Sl)
  | [], δ, acc => some (acc, δ)
  | d :: ds, δ, acc => match fc (δ.set x (.val d)) with
    | some (true, δ1) => match fe δ1 with
      | some (.ok r δ2) => match frz δ2 r with
        | some (e, δ3) => if acc.length < big then lcL fe fc x ds δ3 (acc ++ [e]) else none
        | none => none
      | _ => none
    | some (false, δ1) => lcL fe fc x ds δ1 acc
    | none => none
/-- the slot of a list that is walked is locked meanwhile -/
def lockS (δ : List Sl) : R → Option (List D × List Sl × Option (Nat × Sl))
  | .val (.lst xs) => some (xs, δ, none)
  | .val (.rol xs) => some (xs, δ, none)
  | .val (.tup xs) => some (xs, δ, none)
  | .new xs => some (xs, δ, none)
  | .bor i => match δ[i]? with
    | some (.own xs) => some (xs, δ.set i (.lock xs), some (i, .own xs))
    | some (.lock xs) => some (xs, δ, none)
    | some (.val (.lst xs)) => some (xs, δ, none)
    | some (.val (.tup xs)) => some (xs, δ, none)
    | _ => none
  | _ => none
def unlockS (δ : List Sl) : Option (Nat × Sl) → List Sl
  | none => δ
  | some (i, s) => δ.set i s
def rngD (lo : Int) (n : Nat) : List D := (List.range n).map fun i => D.int (lo + (i : Nat))

def isAnd : BoolOp → Bool
  | .And => true
  | .Or => false
/-- what is written: values of the module's constants; own classes: properties (class, name, field), methods (class, name, def), classes above -/
structure Gd where
  gl : List D
  prp : List (Str × Str × Str) := []
  mth : List ((Str × Str) × Nat) := []
  sub : List (Str × List Nat) := []
  nc : Nat := 0
mutual
/-- no conditional expression as a test -/
def nIf : E → Bool
  | .ife _ _ _ _ => false
  | .nt a _ => nIf a
  | .bop _ es _ => nIfs es
  | _ => true
def nIfs : Es → Bool
  | .nil => true
  | .cons e es => nIf e && nIfs es
end
section
variable (cf : Nat → List Sl → Option CO) (tf : EO → Option EO) (gd : Gd)
/-- a method of an own object -/
def own1 (m : Str) (x : D) : Option D := match x with
  | .obj C _ => match gd.mth.lookup (C, m) with
    | some f => match cf f [.val x] with
      | some (.ret (.val d) _) => some d
      | _ => none
    | none => none
  | _ => none
def own2 (m : Str) (x y : D) : Option D := match x with
  | .obj C _ => match gd.mth.lookup (C, m) with
    | some f => match cf f [.val x, .val y] with
      | some (.ret (.val d) _) => some d
      | _ => none
    | none => none
  | _ => none
def isObj : D → Bool
  | .obj _ _ => true
  | _ => false
def opNm : Operator → Str
  | .BitAnd => "__and__"
  | .BitOr => "__or__"
  | _ => ""
/-- y's class has such a method -/
def hasM (m : Str) : D → Bool
  | .obj C _ => (gd.mth.lookup (C, m)).isSome
  | _ => false
def isAO : Operator → Bool
  | .BitAnd => true
  | .BitOr => true
  | _ => false
def binO (op : Operator) (x y : D) : Option RD := if isObj x then (if isAO op && hasM gd (opNm op) y then (own2 cf gd (opNm op) x y).map .val else none) else binD op x y
def eqO (x y : D) : Option Bool := if (tyN y).isSome || hasM gd "__eq__" y then match own2 cf gd "__eq__" x y with
    | some (.bl b) => some b
    | _ => none
  else none
def cmpO (op : CmpOp) (x y : D) : Option Bool := match op with
  | .Eq => if isObj x then eqO cf gd x y else if isObj y && (tyN x).isSome then eqO cf gd y x else cmpD .Eq x y
  | .NotEq => if isObj x then (eqO cf gd x y).map (!·) else if isObj y then none else cmpD .NotEq x y
  | op => cmpD op x y
def isVl : R → Bool
  | .val _ => true
  | _ => false
def cmpR (op : CmpOp) (ra rb : R) (x y : D) : Option Bool := if isVl ra && isVl rb then cmpO cf gd op x y else cmpD op x y
def strO : Option D → Option RD
  | some (.str x) => some (.val (.str x))
  | _ => none
def biO (b : Bi) (ds : List D) : Option RD := match b, ds with
  | .repr, [d] => if isObj d then strO (own1 cf gd "__repr__" d) else biD .repr [d]
  | .str, [d] => if isObj d then strO (own1 cf gd "__str__" d) else biD .str [d]
  | b, ds => biD b ds
def iscD (c : Nat) (d : D) : Option Bool := if c < gd.nc then match d with
    | .obj C _ => (gd.sub.lookup C).map fun l => l.contains c
    | .rol _ => none
    | _ => some false
  else none
def attD (f fld : Str) : D → Option D
  | .obj C fs => if gd.prp.contains (C, f, fld) then fs.lookup fld else none
  | _ => none
/-- a part of an f-string -/
def fmtD (rp : Bool) : D → Option Str
  | .str x => if rp then (if (reprText x).length ≤ big then some (reprText x) else none) else if x.length ≤ big then some x else none
  | .int i => if -(10 ^ 100) < i ∧ i < 10 ^ 100 then some (toString i : String) else none
  | _ => none
def strsR : List R → Option (List Str)
  | [] => some []
  | .val (.str x) :: ds => (strsR ds).map (x :: ·)
  | _ :: _ => none
def catS : List Str → Str
  | [] => Str.empty
  | x :: xs => x ++ catS xs
mutual
def evE : E → List Sl → Option EO
  | .var i _, δ => match δ[i]? with
    | some (.val d) => some (.ok (.val d) δ)
    | some (.own _) => some (.ok (.bor i) δ)
    | some (.lock _) => some (.ok (.bor i) δ)
    | _ => none
  | .con c _ _, δ => match c with
    | .int i => some (.ok (.val (.int i)) δ)
    | .str x => some (.ok (.val (.str x)) δ)
    | .bool b => some (.ok (.val (.bl b)) δ)
    | .none => some (.ok (.val .non) δ)
    | _ => none
  | .glo g _, δ => match gd.gl[g]? with
    | some d => some (.ok (.val d) δ)
    | none => none
  | .bin op a b _, δ => match evE a δ with
    | some (.ok ra δ1) => match evE b δ1 with
      | some (.ok rb δ2) => match ra.see δ2, rb.see δ2 with
        | some x, some y => match binO cf gd op x y with
          | some r => some (.ok r.r δ2)
          | none => none
        | _, _ => none
      | _ => none
    | _ => none
  | .neg a _, δ => match evE a δ with
    | some (.ok ra δ1) => match ra.see δ1 with
      | some (.int i) => some (.ok (.val (.int (-i))) δ1)
      | _ => none
    | _ => none
  | .nt a _, δ => match evE a δ with
    | some (.ok ra δ1) => match ra.see δ1 with
      | some (.bl b) => some (.ok (.val (.bl (!b))) δ1)
      | _ => none
    | _ => none
  | .bop op es _, δ => evB op es δ
  | .cmp op a b _, δ => match evE a δ with
    | some (.ok ra δ1) => match evE b δ1 with
      | some (.ok rb δ2) => match ra.see δ2, rb.see δ2 with
        | some x, some y => match cmpR cf gd op ra rb x y with
          | some r => some (.ok (.val (.bl r)) δ2)
          | none => none
        | _, _ => none
      | _ => none
    | _ => none
  | .ife c a b _, δ => if nIf c then match evE c δ with
      | some (.ok rc δ1) => match (rc.see δ1).bind truD with
        | some true => evE a δ1
        | some false => evE b δ1
        | none => none
      | _ => none
    else none
  | .lst es _, δ => match evEs es δ with
    | some (.ok rs δ1) => match frzs δ1 rs with
      | some (ds, δ2) => if ds.length ≤ big then some (.ok (.new ds) δ2) else none
      | none => none
    | some (.exc c d δ1) => some (.exc c d δ1)
    | none => none
  | .tup es _ _, δ => match evEs es δ with
    | some (.ok rs δ1) => match frzs δ1 rs with
      | some (ds, δ2) => if ds.length ≤ big then some (.ok (.val (.tup ds)) δ2) else none
      | none => none
    | some (.exc c d δ1) => some (.exc c d δ1)
    | none => none
  | .dis kvs _, δ => match evP kvs δ with
    | some (kvs, δ1) => if kvs.length ≤ 15 then some (.ok (.val (.dct (kvs.foldl (fun acc kv => putD acc kv.1 kv.2) []))) δ1) else none
    | none => none
  | .idx a b _, δ => match evE a δ with
    | some (.ok ra δ1) => match evE b δ1 with
      | some (.ok rb δ2) => match ra.see δ2, rb.see δ2 with
        | some x, some y => match ixD x y with
          | some r => some (.ok (.val r) δ2)
          | none => none
        | _, _ => none
      | _ => none
    | _ => none
  | .sli a lo hi _ _, δ => match evE a δ with
    | some (.ok ra δ1) => match evO lo δ1 with
      | some (l, δ2) => match evO hi δ2 with
        | some (h, δ3) => match ra.see δ3 with
          | some x => match slD x l h with
            | some r => some (.ok r.r δ3)
            | none => none
          | none => none
        | none => none
      | none => none
    | _ => none
  | .rev a _ _ _ _ _, δ => match evE a δ with
    | some (.ok ra δ1) => match ra.see δ1 with
      | some (.lst xs) => some (.ok (.new xs.reverse) δ1)
      | _ => none
    | _ => none
  | .call f _ es _, δ => match evEs es δ with
    | some (.ok rs δ1) => callD cf f rs δ1
    | some (.exc c d δ1) => some (.exc c d δ1)
    | none => none
  | .callk f _ _ es _, δ => match evEs es δ with
    | some (.ok rs δ1) => callD cf f rs δ1
    | _ => none
  | .bi b _ es _, δ => match evEs es δ with
    | some (.ok rs δ1) => match sees δ1 rs with
      | some ds => match biO cf gd b ds with
        | some r => some (.ok r.r δ1)
        | none => none
      | none => none
    | _ => none
  | .isi a t _ _ _, δ => match evE a δ with
    | some (.ok ra δ1) => match (ra.see δ1).bind fun d => isiD d t with
      | some b => some (.ok (.val (.bl b)) δ1)
      | none => none
    | _ => none
  | .isiT a ts _ _ _ _, δ => if ts.length ≤ big ∧ ts ≠ [] then match evE a δ with
      | some (.ok ra δ1) => match (ra.see δ1).bind fun d => isiDs d (ts.map (·.1)) with
        | some b => some (.ok (.val (.bl b)) δ1)
        | none => none
      | _ => none
    else none
  | .me m o _ es _, δ => match evE o δ with
    | some (.ok ro δ1) => if recv m ro δ1 then match evEs es δ1 with
        | some (.ok rs δ2) => meD m ro rs δ2
        | _ => none
      else none
    | _ => none
  | .lc elt x _ it c _ _, δ => match evI it δ with
    | some (xs, δ1, lk) => match lcL (fun δ => evE elt δ) (fun δ => evC c δ) x xs (δ1.set x .un) [] with
      | some (ys, δ2) => match δ1[x]? with
        | some (.lock _) => none
        | some s => some (.ok (.new ys) (unlockS (δ2.set x s) lk))
        | none => none
      | none => none
    | none => none
  | .srt _ elt x _ it c _ _ _, δ => match evI it δ with
    | some (xs, δ1, lk) => match lcL (fun δ => evE elt δ) (fun δ => evC c δ) x xs (δ1.set x .un) [] with
      | some (ys, δ2) => match δ1[x]?, asInts ys with
        | some (.lock _), _ => none
        | some s, some ns => if ns.length < 64 then some (.ok (.new ((srtI ns).map D.int)) (unlockS (δ2.set x s) lk)) else none
        | _, _ => none
      | none => none
    | none => none
  | .srs _ _ e _ _, δ => match evE e δ with
    | some (.ok r δ1) => match r.see δ1 with
      | some (.lst xs) => match asInts xs with
        | some ns => if ns.length < 64 then some (.ok (.new ((srtI ns).map D.int)) δ1) else none
        | none => none
      | _ => none
    | _ => none
  | .att a f fld _, δ => match evE a δ with
    | some (.ok ra δ1) => match (ra.see δ1).bind (attD gd f fld) with
      | some d => some (.ok (.val d) δ1)
      | none => none
    | _ => none
  | .isc a c _ _ _, δ => match evE a δ with
    | some (.ok ra δ1) => match (ra.see δ1).bind (iscD gd c) with
      | some b => some (.ok (.val (.bl b)) δ1)
      | none => none
    | _ => none
  | .fst es _, δ => match evEs es δ with
    | some (.ok rs δ1) => match strsR rs with
      | some xs => if (catS xs).length ≤ big then some (.ok (.val (.str (catS xs))) δ1) else none
      | none => none
    | _ => none
  | .fmt a rp _, δ => match evE a δ with
    | some (.ok ra δ1) => match (ra.see δ1).bind (fmtD rp) with
      | some x => some (.ok (.val (.str x)) δ1)
      | none => none
    | _ => none
  | .told _ _ body _ _ _ _, δ => match evE body δ with
    | some o => tf o
    | none => none
def evEs : Es → List Sl → Option EA
  | .nil, δ => some (.ok [] δ)
  | .cons e es, δ => match evE e δ with
    | some (.ok r δ1) => match evEs es δ1 with
      | some (.ok rs δ2) => some (.ok (r :: rs) δ2)
      | some (.exc c d δ2) => some (.exc c d δ2)
      | none => none
    | some (.exc c d δ1) => some (.exc c d δ1)
    | none => none
def evB (op : BoolOp) : Es → List Sl → Option EO
  | .nil, _ => none
  | .cons e .nil, δ => evE e δ
  | .cons e es, δ => match evE e δ with
    | some (.ok r δ1) => match r.see δ1 with
      | some (.bl b) => if b = isAnd op then evB op es δ1 else some (.ok (.val (.bl b)) δ1)
      | _ => none
    | _ => none
/-- the test of a comprehension: none or one -/
def evC : Es → List Sl → Option (Bool × List Sl)
  | .nil, δ => some (true, δ)
  | .cons e .nil, δ => if nIf e then match evE e δ with
      | some (.ok r δ1) => match (r.see δ1).bind truD with
        | some b => some (b, δ1)
        | none => none
      | _ => none
    else none
  | _, _ => none
def evO : Option E → List Sl → Option (Option Int × List Sl)
  | none, δ => some (none, δ)
  | some e, δ => match evE e δ with
    | some (.ok r δ1) => match r.see δ1 with
      | some (.int i) => some (some i, δ1)
      | _ => none
    | _ => none
def evP : Ps → List Sl → Option (List (Key × D) × List Sl)
  | .nil, δ => some ([], δ)
  | .cons k v ps, δ => match evE k δ with
    | some (.ok rk δ1) => match evE v δ1 with
      | some (.ok rv δ2) => match rk.see δ2, frz δ2 rv with
        | some (.int i), some (d, δ3) => match evP ps δ3 with
          | some (kvs, δ4) => some ((.inl i, d) :: kvs, δ4)
          | none => none
        | some (.str i), some (d, δ3) => match evP ps δ3 with
          | some (kvs, δ4) => some ((.inr i, d) :: kvs, δ4)
          | none => none
        | _, _ => none
      | _ => none
    | _ => none
def evI : It → List Sl → Option (List D × List Sl × Option (Nat × Sl))
  | .seq e, δ => match evE e δ with
    | some (.ok r δ1) => lockS δ1 r
    | _ => none
  | .rng1 _ e _, δ => match evE e δ with
    | some (.ok r δ1) => match r.see δ1 with
      | some (.int n) => if -(big : Int) ≤ n ∧ n ≤ big then some (rngD 0 n.toNat, δ1, none) else none
      | _ => none
    | _ => none
  | .rng2 _ a b _, δ => match evE a δ with
    | some (.ok ra δ1) => match evE b δ1 with
      | some (.ok rb δ2) => match ra.see δ2, rb.see δ2 with
        | some (.int i), some (.int j) => if -(big : Int) ≤ i ∧ i ≤ big ∧ -(big : Int) ≤ j ∧ j ≤ big then some (rngD i (j - i).toNat, δ2, none) else none
        | _, _ => none
      | _ => none
    | _ => none
end
/-! ### statements -/
inductive SO where
  | nx (δ : List Sl) | rt (r : RD) (δ : List Sl) | ex (c : Nat) (d : D) (δ : List Sl)

/-- a slot of the def's own -/
abbrev Loc (np : Nat × Nat) (i : Nat) : Prop := np.1 ≤ i ∧ i < np.2
def asgS (np : Nat × Nat) (i : Nat) (s : Sl) (δ : List Sl) : Option (List Sl) := if Loc np i then match δ[i]? with
    | some (.lock _) => none
    | some _ => some (δ.set i s)
    | none => none
  else none
def asgR (np : Nat × Nat) (i : Nat) (r : R) (δ : List Sl) : Option (List Sl) := match r with
  | .new xs => asgS np i (.own xs) δ
  | r => match frz δ r with
    | some (d, δ1) => asgS np i (.val d) δ1
    | none => none
def setD (r k v : R) (δ : List Sl) : Option (List Sl) := match r with
  | .bor i => match frz δ v with
    | some (d, δ1) => match δ1[i]?, k.see δ1 with
      | some (.own xs), some (.int j) => match ixN xs.length j with
        | some n => some (δ1.set i (.own (xs.set n d)))
        | none => none
      | _, _ => none
    | none => none
  | _ => none
def asgT (np : Nat × Nat) (t : Tg) (d : D) (δ : List Sl) : Option (List Sl) := match t with
  | .nm i _ => asgS np i (.val d) δ
  | .sub o i _ => match evE cf tf gd o δ with
    | some (.ok ro δ1) => match evE cf tf gd i δ1 with
      | some (.ok ri δ2) => setD ro ri (.val d) δ2
      | _ => none
    | _ => none
def frL (np : Nat × Nat) (fb : List Sl → Option SO) (x : Nat) : List D → List Sl → Option SO
  | [], δ => some (.nx δ)
  | d :: ds, δ => match asgS np x (.val d) δ with
    | some δ1 => match fb δ1 with
      | some (.nx δ2) => frL np fb x ds δ2
      | o => o
    | none => none
def unlockO (lk : Option (Nat × Sl)) : SO → SO
  | .nx δ => .nx (unlockS δ lk)
  | .rt r δ => .rt r (unlockS δ lk)
  | .ex c d δ => .ex c d (unlockS δ lk)
def retR (np : Nat × Nat) (r : R) (δ : List Sl) : Option SO := match r with
  | .val d => some (.rt (.val d) δ)
  | .new xs => some (.rt (.new xs) δ)
  | .bor i => match δ[i]? with
    | some (.own xs) => if Loc np i then some (.rt (.new xs) (δ.set i .un)) else some (.rt (.val (.lst xs)) (δ.set i (.val (.lst xs))))
    | _ => none
/-- the last of several: may be a new list -/
def asgN (np : Nat × Nat) (i : Nat) (r : R) (δ : List Sl) : Option (List Sl) := match r with
  | .new xs => asgS np i (.own xs) δ
  | .val d => asgS np i (.val d) δ
  | _ => none
/-- for x, y in: each item a pair -/
def frL2 (np : Nat × Nat) (fb : List Sl → Option SO) (x y : Nat) : List D → List Sl → Option SO
  | [], δ => some (.nx δ)
  | .tup [d, e] :: ds, δ => match asgS np x (.val d) δ with
    | some δ1 => match asgS np y (.val e) δ1 with
      | some δ2 => match fb δ2 with
        | some (.nx δ3) => frL2 np fb x y ds δ3
        | o => o
      | none => none
    | none => none
  | _ :: _, _ => none
mutual
def evS (np : Nat × Nat) : S → List Sl → Option SO
  | .asg i _ e _, δ => match evE cf tf gd e δ with
    | some (.ok r δ1) => match asgR np i r δ1 with
      | some δ2 => some (.nx δ2)
      | none => none
    | some (.exc c d δ1) => some (.ex c d δ1)
    | none => none
  | .par i j _ _ _ _ a b _ _ _, δ => match evEs cf tf gd (.cons a (.cons b .nil)) δ with
    | some (.ok rs δ1) => match frzs δ1 rs with
      | some ([x, y], δ2) => match asgS np i (.val x) δ2 with
        | some δ3 => match asgS np j (.val y) δ3 with
          | some δ4 => some (.nx δ4)
          | none => none
        | none => none
      | _ => none
    | _ => none
  | .unp t1 t2 _ _ e _, δ => match evE cf tf gd e δ with
    | some (.ok r δ1) => match frz δ1 r with
      | some (.tup [x, y], δ2) => match asgT cf tf gd np t1 x δ2 with
        | some δ3 => match asgT cf tf gd np t2 y δ3 with
          | some δ4 => some (.nx δ4)
          | none => none
        | none => none
      | _ => none
    | _ => none
  | .sub o i _ e _, δ => match evE cf tf gd e δ with
    | some (.ok r δ1) => match evE cf tf gd o δ1 with
      | some (.ok ro δ2) => match evE cf tf gd i δ2 with
        | some (.ok ri δ3) => match setD ro ri r δ3 with
          | some δ4 => some (.nx δ4)
          | none => none
        | _ => none
      | _ => none
    | _ => none
  | .exp e _, δ => match evE cf tf gd e δ with
    | some (.ok _ δ1) => some (.nx δ1)
    | some (.exc c d δ1) => some (.ex c d δ1)
    | none => none
  | .ret e _, δ => match evE cf tf gd e δ with
    | some (.ok r δ1) => retR np r δ1
    | some (.exc c d δ1) => some (.ex c d δ1)
    | none => none
  | .iff c a b _, δ => if nIf c then match evE cf tf gd c δ with
      | some (.ok r δ1) => match (r.see δ1).bind truD with
        | some true => evSs np a δ1
        | some false => evSs np b δ1
        | none => none
      | _ => none
    else none
  | .fr x _ it b _, δ => match evI cf tf gd it δ with
    | some (xs, δ1, lk) => match frL np (fun δ => evSs np b δ) x xs δ1 with
      | some o => some (unlockO lk o)
      | none => none
    | none => none
  | .raise c _ e _ _, δ => match evE cf tf gd e δ with
    | some (.ok r δ1) => match frz δ1 r with
      | some (d, δ2) => some (.ex c d δ2)
      | none => none
    | _ => none
  | .par3 i j l _ _ _ _ _ a b c _ _ _, δ => match evEs cf tf gd (.cons a (.cons b (.cons c .nil))) δ with
    | some (.ok [.val x, .val y, rc] δ2) => match asgS np i (.val x) δ2 with
      | some δ3 => match asgS np j (.val y) δ3 with
        | some δ4 => match asgN np l rc δ4 with
          | some δ5 => some (.nx δ5)
          | none => none
        | none => none
      | none => none
    | _ => none
  | .frt x y _ _ _ _ it b _, δ => match evI cf tf gd it δ with
    | some (xs, δ1, lk) => match frL2 np (fun δ => evSs np b δ) x y xs δ1 with
      | some o => some (unlockO lk o)
      | none => none
    | none => none
def evSs (np : Nat × Nat) : Ss → List Sl → Option SO
  | .nil, δ => some (.nx δ)
  | .cons s ss, δ => match evS np s δ with
    | some (.nx δ1) => evSs np ss δ1
    | o => o
end
/-! ### a def -/
structure Fn where
  np : Nat
  ns : Nat
  star : Bool
  body : Ss
/-- what became of the arguments: values stay -/
def backA : List Sl → List Sl → List Sl
  | .val d :: as, _ :: δ => .val d :: backA as δ
  | .un :: as, _ :: δ => .un :: backA as δ
  | _ :: as, s :: δ => s :: backA as δ
  | as, _ => as
/-- what comes out at a def's end -/
def endF (as : List Sl) : Option SO → Option CO
  | some (.nx δ) => some (.ret (.val .non) (backA as δ))
  | some (.rt r δ) => some (.ret r (backA as δ))
  | some (.ex c d δ) => some (.exc c d (backA as δ))
  | none => none
end
def vals : List Sl → Option (List D)
  | [] => some []
  | .val d :: ss => (vals ss).map (d :: ·)
  | _ :: _ => none
/-- what is told of an action: its value, or the error's tag and value -/
def tell (tags : Nat → Option Str) : EO → Option EO
  | .ok r δ => match frz δ r with
    | some (d, δ1) => (shD (.lst [.str "done", d])).map fun x => .ok (.val x) δ1
    | none => none
  | .exc c d δ => match tags c with
    | some t => (shD (.lst [.str t, d, .bl true])).map fun x => .ok (.val x) δ
    | none => none
/-- a class whose __init__ runs a body, calls super().__init__(e), which sets one field, and sets fields -/
structure Cl where
  C : Str
  np : Nat
  ns : Nat
  star : Bool
  body : Ss
  sup : Option (Str × E)
  flds : List (Str × E)
inductive Ent where
  | no | fn (F : Fn) | cls (c : Cl)
section
variable (cf : Nat → List Sl → Option CO) (tf : EO → Option EO) (gd : Gd)
inductive FO where
  | ok (fs : List (Str × D)) (δ : List Sl) | exc (c : Nat) (d : D) (δ : List Sl)
def evF : List (Str × E) → List Sl → Option FO
  | [], δ => some (.ok [] δ)
  | (f, e) :: r, δ => match evE cf tf gd e δ with
    | some (.ok q δ1) => match frz δ1 q with
      | some (d, δ2) => match evF r δ2 with
        | some (.ok fs δ3) => some (.ok ((f, d) :: fs) δ3)
        | o => o
      | none => none
    | some (.exc c d δ1) => some (.exc c d δ1)
    | none => none
def runC (c : Cl) (as : List Sl) : Option CO := match evSs cf tf gd (c.np, c.ns) c.body (.un :: as ++ List.replicate (c.ns - c.np) .un) with
  | some (.nx δ) => match evF cf tf gd (c.sup.toList ++ c.flds) δ with
    | some (.ok fs δ1) => some (.ret (.val (.obj c.C fs)) (backA as δ1.tail))
    | some (.exc k d δ1) => some (.exc k d (backA as δ1.tail))
    | none => none
  | some (.ex k d δ) => some (.exc k d (backA as δ.tail))
  | _ => none
end
section
variable (fns : List Ent) (tf : EO → Option EO) (gd : Gd)
def run : Nat → Nat → List Sl → Option CO
  | 0, _, _ => none
  | k + 1, f, as => match fns[f]? with
    | some (.fn F) =>
      if F.star then match vals as with
        | some ds => if ds.length ≤ big then match evSs (run k) tf gd (F.np, F.ns) F.body (.val (.tup ds) :: List.replicate (F.ns - 1) .un) with
            | some (.nx _) => some (.ret (.val .non) as)
            | some (.rt r _) => some (.ret r as)
            | some (.ex c d _) => some (.exc c d as)
            | none => none
          else none
        | none => none
      else if as.length = F.np then endF as (evSs (run k) tf gd (F.np, F.ns) F.body (as ++ List.replicate (F.ns - F.np) .un)) else none
    | some (.cls c) =>
      if c.star then match vals as with
        | some ds => if ds.length ≤ big then match runC (run k) tf gd c [.val (.tup ds)] with
            | some (.ret r _) => some (.ret r as)
            | some (.exc k d _) => some (.exc k d as)
            | none => none
          else none
        | none => none
      else if as.length + 1 = c.np then runC (run k) tf gd c as else none
    | _ => none
end
end Mn

-- Mn2b
set_option Elab.async false
set_option linter.all false
set_option maxRecDepth 100000
set_option maxHeartbeats 2000000
set_option autoImplicit false
namespace Mn
open PySem PySem.Spec L2

/-! ### a comprehension that fills a set -/
/-- a kind of sets: what is tracked of one, the empty one, what add makes of it -/
structure SKit (P : Program) (w : World) (ι : Type) where
  obj : Addr → ι → HO
  nil : ι
  add : ι → V → ι → Prop
  new : ∀ (H : Hp) (h : Heap), ObjOk P w H (h.push { cls := .type "set", dict := none, data := .set #[] 0 (.fresh 0 0 (!w.params.followText "set-order")) }) h.objs.size (obj h.objs.size nil)
  put : ∀ {Y : Cx} {pins : List (Addr × Obj)} {σ : L2.St} {H : Hp} {s : Shared} {D : Addr} {i j : ι} {v : V} {u : Value} {E : Value → Shared → Prop} {Q : Value → Shared → Prop}, Y.prog = P → Y.w = w → L2.Inv Y pins σ H s → H D = some (obj D i) → add i v j → RelV v u →
    (∀ s', L2.Inv Y pins σ (upd H D (obj D j)) s' → Q .none s') → wpAny (model Y.prog Y.w) Y.A (call (.builtin "set.add") [.ref D, u]) Q E s

/-- the reading -/
def tSK {P : Program} {w : World} {ι : Type} (k : SKit P w ι) (wi : TI) (g : TG) (tt : TT) (te : TE) (vs : List Nat) : TE := fun σ H Q => wi σ H fun J H1 => ∀ D, H1 D = none → ∃ Z : Nat → Nat → Hp → Prop, (∃ m, Z 0 m (upd H1 D (k.obj D k.nil))) ∧ ∀ i m H, Z i m H →
  (J.stop i H ∧ Q (.ref D) H) ∨ (J.go i H ∧ ∃ Nx : Hp → Prop, (∀ H', Nx H' → ∃ m', m' < m ∧ Z (i + 1) m' H') ∧ ∀ x H', J.yld i H x H' → g x (wipe σ vs) H' fun σ2 H2 => wipe σ2 vs = wipe σ vs ∧ tt σ2 H2 fun b H3 =>
    if b = true then te σ2 H3 fun y H4 => ∃ a b, H4 D = some (k.obj D a) ∧ k.add a y b ∧ Nx (upd H4 D (k.obj D b)) else Nx H3)

section
variable {X : Cx} {ι : Type} {k : SKit X.prog X.w ι}
theorem pe_sk {elt tg iter : Expr} {ifs : List Expr} {sc : Scope} {own : List (Str × Nat)} {pos : Pos} {wi : TI} {g : TG} {tt : TT} {te : TE} (hc : X.calm = true) (hN : X.N.Nodup) (hi : PI X tg iter wi) (ok : BlkOk X.N X.env.scope sc own)
    (hg : ∀ (s : Shared) (H : Hp) (C : Addr) (cl : List (Str × Addr)) (fp : List Addr), PG (X.blk s H sc (compEnvC sc cl C X.env) fp) tg g)
    (ht : ∀ (s : Shared) (H : Hp) (C : Addr) (cl : List (Str × Addr)) (fp : List Addr), PTs (X.blk s H sc (compEnvC sc cl C X.env) fp) ifs tt)
    (he : ∀ (s : Shared) (H : Hp) (C : Addr) (cl : List (Str × Addr)) (fp : List Addr), PE (X.blk s H sc (compEnvC sc cl C X.env) fp) elt te) (hs : ∀ x, foldedSetIterable iter X.env x = pure x) :
    PE X (.SetComp elt [⟨tg, iter, ifs, 0⟩] sc pos) (tSK k wi g tt te (own.map (·.2))) := by
  refine ⟨fun pins s σ H Q I read => ?_⟩
  rw [PpSet.eval_SetComp]
  have clo : ∀ y ∈ sc.names, y.2 = .free → ∃ c, X.env.cells.lookup y.1 = some c := fun y hy e =>
    (ok.free y hy e).elim (fun z => I.ok.has _ (.inl z)) fun z => I.ok.has _ (.inr z)
  refine wpAny_comprehension_free (use := none) rfl hs (closure_ok clo) ok.kind (fun y hy e => by rw [ok.uniq y hy, e]) (thn (hi.run pins s σ H _ I read) fun xv s1 hx => thn hx fun itv s2 h2 => ?_)
  obtain ⟨it, fp, tn, J, Ha, rfl, Ia, T, ta, fa, q⟩ := h2
  refine PpSet.newSet_ok (newEnv_comp ?_)
  generalize eD : s2.heap.objs.size = D
  have freeD : Ha D = none := Ia.hok.fresh (Nat.le_of_eq eD)
  obtain ⟨Z, ⟨m0, z0⟩, turn⟩ := q D freeD
  generalize eb : ({ s2 with heap := s2.heap.push { cls := .type "set", dict := none, data := .set #[] 0 (.fresh 0 0 (!X.w.params.followText "set-order")) } } : Shared) = sb
  have Ib : L2.Inv X pins σ (upd Ha D (k.obj D k.nil)) sb := by
    subst eb
    subst eD
    exact Ia.laid (t' := s2.toks) (fun b o e => Heap.get?_push_of_some _ e) (Nat.le_refl _) (k.new _ _)
  have hb : sb.heap = s2.heap.push { cls := .type "set", dict := none, data := .set #[] 0 (.fresh 0 0 (!X.w.params.followText "set-order")) } := by rw [← eb]
  have fb : ∀ b ∈ fp, FpOk X pins (upd Ha D (k.obj D k.nil)) b ∧ b < sb.heap.objs.size := fun b hm => by
    obtain ⟨o, e, _⟩ := T.obj _ _ ta b hm
    have lt := Heap.lt_size e
    refine ⟨⟨?_, (fa b hm).2⟩, by rw [hb, Heap.size_push]; exact Nat.lt_succ_of_lt lt⟩
    rw [upd_ne (by rw [← eD]; exact Nat.ne_of_lt lt)]
    exact (fa b hm).1
  have tb : tn 0 sb.heap := T.keep _ _ _ ta fun b _ o e => by rw [hb]; exact Heap.get?_push_of_some _ e
  have Ic := block_start Ib ok hN fb
  generalize eH : upd Ha D (k.obj D k.nil) = Hb at Ib Ic z0 fb
  generalize ecl : cellsFrom (sb.heap.objs.size + 1) sc.names (cloFrom X.env.cells sc.names []) = cl at Ic ⊢
  have pg := hg sb Hb sb.heap.objs.size cl fp
  have pt := ht sb Hb sb.heap.objs.size cl fp
  have pe := he sb Hb sb.heap.objs.size cl fp
  show codeAny _ _ (.compStart (.SetComp elt [⟨tg, iter, ifs, 0⟩] sc pos) 0 (.ref it) (.ref D) (compEnvC sc cl sb.heap.objs.size X.env)) (compPost (model X.prog X.w) X.A X.xe none (EP X pins σ Q) (.ref D) sb.heap.objs.size) { sb with heap := pushCells (sb.heap.push { cls := .type "dict", data := .dict #[] }) sc.names }
  generalize ece : compEnvC sc cl sb.heap.objs.size X.env = ce at Ic pg pt pe ⊢
  have cL : ce.locals = sb.heap.objs.size := by subst ece; rfl
  generalize ec : ({ sb with heap := pushCells (sb.heap.push { cls := .type "dict", data := .dict #[] }) sc.names } : Shared) = sd at Ic ⊢
  have td : tn 0 sd.heap := T.keep _ _ _ tb fun b _ o e => by rw [← ec]; exact pushCells_keeps _ _ _ _ (Heap.get?_push_of_some _ e)
  have stat : ∀ {σ' : L2.St} {H' : Hp} {s' : Shared}, L2.Inv (X.blk sb Hb sc ce fp) [] σ' H' s' → (∀ b ∈ fp, H' b = none) → ∀ b ∈ fp, FpOk (X.blk sb Hb sc ce fp) [] H' b := fun {σ' H' s'} I' hn b hm =>
    ⟨hn b hm, (I'.ok.exf b hm).1, I'.ok.exfs b hm, .inl hm, fun x c e => (I'.ok.exf b hm).2 x c e, fun p hp => absurd (show p ∈ ([] : List (Addr × Obj)) ++ [] from hp) (by simp)⟩
  have loop : codeAny (model X.prog X.w) X.A (.compLoop (.SetComp elt [⟨tg, iter, ifs, 0⟩] sc pos) 0 (.ref it) (.ref D) ce) (compPost (model X.prog X.w) X.A X.xe none (EP X pins σ Q) (.ref D) sb.heap.objs.size) sd := by
    refine PpSet.compLoopS_any (fun n s' => ∃ i H', L2.Inv (X.blk sb Hb sc ce fp) [] (wipe σ (own.map (·.2))) H' s' ∧ tn i s'.heap ∧ (∀ b ∈ fp, H' b = none) ∧ Z i n H') ?_ m0 ⟨0, Hb, Ic, td, fun b hm => (fb b hm).1.1, z0⟩
    rintro n se ⟨i, He, Ie, te', ne, ze⟩
    rcases turn i n He ze with ⟨stop, qq⟩ | ⟨go, Nx, hNx, step⟩
    · refine thnF (T.done (X.blk sb Hb sc ce fp) rfl rfl rfl hc i [] se _ He (fun _ _ => False) Ie (stat Ie ne) te' stop) fun r sf ⟨hr, If⟩ => ?_
      subst hr
      have Ig : L2.Inv X pins σ He sf := Ib.call' (ch := fp) If.os If.base If.hok If.bare fun b hm => ⟨(fb b hm).1.2.2.2.1, (fb b hm).1.2.1, (fb b hm).1.2.2.2.2.1, (fb b hm).1.2.2.2.2.2⟩
      have nC : He sb.heap.objs.size = none := by
        have z : He ce.locals = none := If.free
        rw [cL] at z
        exact z
      obtain ⟨m, hn, _⟩ := If.loc
      have hn : sf.heap.Ns ce.locals m := hn
      rw [cL] at hn
      obtain ⟨f0, f1, f2, f3, f4, f5⟩ := Ib.fpOk (Nat.le_refl _) nC
      exact ⟨m, hn, fun h'' sbt => ⟨.ref D, He, Ig.turned (t' := sf.toks) (fun b o hm e => (sbt.2 b hm).trans e) f0 f1 f3 f4 f5, rfl, qq⟩⟩
    · refine thnF (T.item (X.blk sb Hb sc ce fp) rfl rfl rfl hc i [] se _ He (fun _ _ => False) Ie (stat Ie ne) te' go) fun r sf ⟨u, hr, hf⟩ => ?_
      subst hr
      refine thnF hf fun _ sg ⟨x, Hg, Ig, rg, yg, tg', ng⟩ => ?_
      have Ig' := Ig.pinned (stat Ig ng) (T.obj _ _ tg')
      refine thnF (pg.run _ sg _ Hg x u _ Ig' rg (step x Hg yg)) fun _ sh ⟨σh, Hh, Ih, wh, qh⟩ => ?_
      refine thnF (pt.run _ sh σh Hh _ Ih qh) fun b sj ⟨Hj, Ij, qj⟩ => ?_
      have fin : ∀ {s' : Shared} {H' : Hp}, L2.Inv (X.blk sb Hb sc ce fp) ([] ++ pinsAt fp sg.heap) σh H' s' → Nx H' →
          ∃ m, m < n ∧ ∃ i H', L2.Inv (X.blk sb Hb sc ce fp) [] (wipe σ (own.map (·.2))) H' s' ∧ tn i s'.heap ∧ (∀ b ∈ fp, H' b = none) ∧ Z i m H' := fun {s' H'} I' nx => by
        obtain ⟨m', hm', z'⟩ := hNx H' nx
        have keep : ∀ b ∈ fp, ∀ o, sg.heap.get? b = some o → s'.heap.get? b = some o ∧ H' b = none := fun b hm o e => by
          have z := I'.pin (b, o) (List.mem_append_right _ (List.mem_append_right _ (mem_pinsAt hm e)))
          exact ⟨z.1, z.2.1⟩
        refine ⟨m', hm', i + 1, H', (I'.unpinned (pins := [])).weak (by rw [← wh, wipe_length]) (fun j v e => ?_), T.keep _ _ _ tg' fun b hm o e => (keep b hm o e).1, fun b hm => ?_, z'⟩
        · rw [← wh] at e
          exact (wipe_some e).1
        · obtain ⟨o, e, _⟩ := T.obj _ _ tg' b hm
          exact (keep b hm o e).2
      cases b with
      | false =>
        simp only [Bool.false_eq_true, if_false] at qj ⊢
        exact fin Ij qj
      | true =>
        simp only [if_true] at qj ⊢
        refine thnF (pe.run _ sj σh Hj _ Ij qj) fun z sl ⟨yv, Hl, Il, rl, a, b, hD, ad, nx⟩ => ?_
        exact k.put (Y := X.blk sb Hb sc ce fp) rfl rfl Il hD ad rl fun sm Im => fin Im nx
  exact PpSet.codeAny_compStart_set loop (T.self X.A 0 _ _ _ td loop)
end

/-- sets of ints -/
def kitI (P : Program) (w : World) : SKit P w ((Int → Bool) × Nat) where
  obj := fun a i => SetO w a i.1 i.2
  nil := (fun _ => false, 0)
  add := fun i v j => ∃ c, v = .int c ∧ i.2 + 1 < PySem.scanBound ∧ j = (fun m => i.1 m || decide (m = c), if i.1 c = true then i.2 else i.2 + 1)
  new := fun H h => setO_new (setR_fresh w)
  put := by
    intro Y pins σ H s D i j v u E Q hP hw I hD ad r q
    subst hP
    subst hw
    obtain ⟨c, rfl, room, rfl⟩ := ad
    obtain ⟨t, rfl⟩ : ∃ t, u = Value.int c t := r
    refine setR_add (setO_get I hD) room fun h' sb new => ?_
    have he : ∃ u, h'.get? D = some u := by
      have ⟨o, _, _, _, ho, _⟩ := new
      exact ⟨o, ho⟩
    exact q _ (I.write (e := D) (t' := s.toks + 1) (by rw [hD]; trivial) (.inl rfl) (fun b u hb hu => (sb.2 b hb).trans hu) he (setO_new new))
end Mn

-- Mn3
set_option Elab.async false
set_option linter.all false
set_option maxRecDepth 100000
set_option autoImplicit false
namespace Mn
open PySem PySem.Spec L2

/-! ## the readings: what HandS asks of each piece -/
/-- the world of a law -/
structure Wd where
  P : Program
  w : World
  K : PySem.W.Frag
  mg : Str → Option Value
  base : Heap
  Γ : Gam
  T : List (Addr × Str)
  gv : Nat → V
  fa : Nat → Addr
  ca : Nat → Addr

abbrev noE : TE := fun _ _ _ => False
abbrev E00 : XK := fun _ _ _ => False
/-! ### own objects -/
/-- v is an instance of the own class C -/
def InsAt (K : PySem.W.Frag) (H : Hp) (C : Str) (v : V) : Prop := ∃ a dx fs, v = .ref a ∧ H a = some (.ins (gaK K C) dx fs)
/-- v is of a built-in type -/
def blt7 : List String := ["NoneType", "int", "bool", "str", "list", "tuple", "dict"]
def KdA (K : PySem.W.Frag) (H : Hp) (v : V) : Prop := ∃ T ∈ blt7, TyX K H v (.type T)
section
variable (K : PySem.W.Frag) (Γ : Gam) (fsp : Nat → Sp)
/-- x op y by an own method -/
def rOwnB (m : Str) : R2 := fun x y H Q => ∃ C D f, InsAt K H C x ∧ InsAt K H D y ∧ Γ.mth.lookup (C, m) = some f ∧ (Γ.mth.lookup (D, m)).isSome = true ∧ fsp f [x, y] H Q E00
/-- a bool comes back -/
abbrev blQ (neg : Bool) (Q : VK) : VK := fun v H => ∃ b, v = .bl b ∧ Q (.bl (if neg then !b else b)) H
/-- x == y, x != y: x own; == alone: y own -/
def rOwnL (neg : Bool) : R2 := fun x y H Q => ∃ C f, InsAt K H C x ∧ Γ.mth.lookup (C, (Str.ofString "__eq__")) = some f ∧ (KdA K H y ∨ ∃ D, InsAt K H D y ∧ (Γ.mth.lookup (D, (Str.ofString "__eq__"))).isSome = true) ∧ fsp f [x, y] H (blQ neg Q) E00
def rOwnR : R2 := fun x y H Q => ∃ C f, InsAt K H C y ∧ Γ.mth.lookup (C, (Str.ofString "__eq__")) = some f ∧ KdA K H x ∧ fsp f [y, x] H (blQ false Q) E00
/-- str(x), repr(x) by an own method -/
def rOwn1 (m : Str) : List V → Hp → VK → Prop := fun xs H Q => ∃ x C f, xs = [x] ∧ InsAt K H C x ∧ Γ.mth.lookup (C, m) = some f ∧ fsp f [x] H (fun v H' => ∃ s, v = .str s ∧ Q (.str s) H') E00
/-- a property -/
def tAtt (f fld : Str) (ta : TE) : TE := fun σ H Q => ta σ H fun x H1 => ∃ a C dx fs v, x = .ref a ∧ H1 a = some (.ins (gaK K C) dx fs) ∧ (C, f, fld) ∈ Γ.prp ∧ fs.lookup fld = some v ∧ Q v H1
end
def opNm3 : Operator → Str
  | .BitAnd => "__and__"
  | .BitOr => "__or__"
  | _ => ""
def rBin : Operator → R2
  | .Add => fun x y H Q => rI0 (fun i j => .int (i + j)) x y H Q ∨ (∃ i j, x = V.str i ∧ y = V.str j ∧ i.length + j.length ≤ sizeLine ∧ Q (.str (i ++ j)) H) ∨ rCat x y H Q
  | .Sub => rI0 fun i j => .int (i - j)
  | .Mult => fun x y H Q => rI CMul (fun i j => .int (i * j)) x y H Q ∨ rRep x y H Q
  | .FloorDiv => rI CDiv fun i j => .int (i / j)
  | .Mod => rI (fun _ j => 0 < j) fun i j => .int (i % j)
  | .Pow => rI CPow fun i j => .int (i ^ j.toNat)
  | _ => fun _ _ _ _ => False
def rCmp (K : PySem.W.Frag) : CmpOp → R2
  | .Lt => rI0 fun i j => .bl (decide (i < j))
  | .LtE => rI0 fun i j => .bl (decide (i ≤ j))
  | .Gt => rI0 fun i j => .bl (decide (j < i))
  | .GtE => rI0 fun i j => .bl (decide (j ≤ i))
  | .Eq => rEqD K
  | .NotEq => rNeD K
  | .In => rIn K false
  | .NotIn => rIn K true
  | .Is => fun x y H Q => rIsB x y H Q ∨ (y = .non ∧ Q (.bl (decide (x = .non))) H)
  | _ => fun _ _ _ _ => False
/-- repr(x) of data -/
def rShow (K : PySem.W.Frag) : List V → Hp → VK → Prop := fun xs H Q => ∃ v d G, xs = [v] ∧ Same G H ∧ See K G H v d ∧ d.shOk = true ∧ d.py.showable = true ∧ d.py.shown.length ≤ big ∧ d.py.depth ≤ 64 ∧ Q (.str d.py.shown) H
def rBi (K : PySem.W.Frag) : Bi → List V → Hp → VK → Prop
  | .len => fun xs H Q => ∃ p ys, xs = [V.ref p] ∧ (SqL K H p ys ∨ SqT K H p ys) ∧ Q (.int ys.length) H
  | .abs => fun xs H Q => ∃ i, xs = [V.int i] ∧ Q (.int (if i < 0 then -i else i)) H
  | .max => fun xs H Q => (∃ i j, xs = [V.int i, V.int j] ∧ Q (.int (if j > i then j else i)) H) ∨ rMax K xs H Q
  | .min => fun xs H Q => (∃ i j, xs = [V.int i, V.int j] ∧ Q (.int (if j < i then j else i)) H) ∨ rMin K xs H Q
  | .int => fun xs H Q => (∃ i, xs = [V.int i] ∧ Q (.int i) H) ∨ ∃ k, xs = [V.bl k] ∧ Q (.int (if k then 1 else 0)) H
  | .divmod => fun xs H Q => ∃ i j, xs = [V.int i, V.int j] ∧ CDiv i j ∧ ∀ p, H p = none → Q (.ref p) (upd H p (.tup [.int (i / j), .int (i % j)]))
  | .repr => rShow K
  | .all => rAll K
  | .any => rAny K
  | .tuple => fun xs H Q => ∃ p ys, xs = [V.ref p] ∧ ((SqL K H p ys ∧ ∀ l, H l = none → Q (.ref l) (upd H l (.tup ys))) ∨ (SqT K H p ys ∧ Q (.ref p) H))
  | .list => fun xs H Q => ∃ p ys, xs = [V.ref p] ∧ (SqL K H p ys ∨ SqT K H p ys) ∧ ∀ l, H l = none → Q (.ref l) (upd H l (.lst ys))
  | .sorted => fun _ _ _ => False
  | .str => fun xs H Q => (∃ x, xs = [V.str x] ∧ Q (.str x) H) ∨ ∃ i : Int, xs = [V.int i] ∧ i.natAbs.log2 < 1920 ∧ Q (.str (toString i : String)) H
def cV : Const → V
  | .int i => .int i
  | .str x => .str x
  | .bool b => .bl b
  | _ => .non
def cOk : Const → Bool
  | .int _ => true
  | .str _ => true
  | .bool _ => true
  | .none => true
  | _ => false
def rInsert : V → List V → Hp → VK → Prop := fun x vs H Q => ∃ (l : Addr) (xs : List V) (i : Int) (y : V), x = .ref l ∧ vs = [.int i, y] ∧ H l = some (.lst xs) ∧ xs.length < sizeLine ∧ 0 ≤ i ∧ i < 2 ^ 63 ∧ Q .non (upd H l (.lst (xs.take i.toNat ++ [y] ++ xs.drop i.toNat)))
abbrev W0 : WX := fun _ _ _ _ => False
abbrev tTys (ts : List String) : TA := ts.foldr (fun t r => tCons (tC (.ty t)) r) tNil
def rdMe (K : PySem.W.Frag) : Me → TE → List TE → TE
  | .append, to, [ta] => tBM K "list" rAppend to (tCons ta tNil)
  | .insert, to, [ta, tb] => tBM K "list" rInsert to (tCons ta (tCons tb tNil))
  | .get, to, [ta, tb] => tDGet2 to ta tb
  | .pop, to, [ta] => tBM K "list" rPopAt to (tCons ta tNil)
  | .join, to, [ta] => tM1 (fun x xs H Q => ∃ a p, ∃ ys : List Str, x = .str a ∧ xs = [.ref p] ∧ (SqL K H p (ys.map V.str) ∨ SqT K H p (ys.map V.str)) ∧ (ys.map (·.length)).sum + ys.length * a.length ≤ 16777216 ∧ Q (.str (Txt.join a ys)) H) to ta
  | _, _, _ => noE
/-- set(xs), ints -/
def rSetOfI (w : World) (K : PySem.W.Frag) : List V → Hp → VK → Prop := fun xs H Q => ∃ (l : Addr) (ns : List Int), xs = [V.ref l] ∧ SqL K H l (ns.map V.int) ∧ ns.length ≤ 1000 ∧ ∀ (p : Addr) (n : Nat), H p = none → n ≤ ns.length → Q (.ref p) (upd H p (SetO w p (fun j => decide (j ∈ ns)) n))
/-- x[y]: an item of a sequence, of a dict -/
def rIxA (K : PySem.W.Frag) : R2 := fun x y H Q => rIx K x y H Q ∨ ∃ a v, x = .ref a ∧ DGet H a y (some v) ∧ Q v H
/-- list or tuple -/
def iSeq (K : PySem.W.Frag) (t : TE) : TI := fun σ H R => iList K t σ H R ∨ iTup K t σ H R

section
variable (P : Program) (w : World) (K : PySem.W.Frag) (Γ : Gam) (gv : Nat → V) (fsp : Nat → Sp) (tsp : (XK → TE) → TE)
def rBinO (op : Operator) : R2 := fun x y H Q => rBin op x y H Q ∨ ((op = .BitAnd ∨ op = .BitOr) ∧ rOwnB K Γ fsp (opNm3 op) x y H Q)
def rCmpO (op : CmpOp) : R2 := fun x y H Q => rCmp K op x y H Q ∨ (op = .Eq ∧ (rOwnL K Γ fsp false x y H Q ∨ rOwnR K Γ fsp x y H Q)) ∨ (op = .NotEq ∧ rOwnL K Γ fsp true x y H Q)
def rBiO (b : Bi) : List V → Hp → VK → Prop := fun xs H Q => rBi K b xs H Q ∨ (b.nm = ("repr" : Str) ∧ rOwn1 K Γ fsp "__repr__" xs H Q) ∨ (b.nm = ("str" : Str) ∧ rOwn1 K Γ fsp "__str__" xs H Q)
mutual
/-- as a value, as a test -/
def rd : E → WX → TE × TT
  | .var i _, _ => (tVar i, tB (tVar i))
  | .con c _ _, _ => (tC (cV c), tB (tC (cV c)))
  | .glo g _, _ => (tC (gv g), tB (tC (gv g)))
  | .bin op a b _, W => let t := tOp (rBinO K Γ fsp op) (rd a W).1 (rd b W).1; (t, tB t)
  | .neg a _, W => let t := tUn (rU fun i => .int (-i)) (rd a W).1; (t, tB t)
  | .nt a _, W => (tNotV (rd a W).1, tNot (rd a W).2)
  | .bop op es _, W => rdB op es W
  | .cmp op a b _, W => let t := tOp (rCmpO K Γ fsp op) (rd a W).1 (rd b W).1; (t, tTest t)
  | .ife c a b _, W => let t := tIf (rd c W).2 (rd a W).1 (rd b W).1; (t, fun _ _ _ => False)
  | .lst es _, W => let t := tLst (rdA es W); (t, tB t)
  | .tup es _ _, W => let t := tTup (rdA es W); (t, tB t)
  | .dis .nil _, W => (tDNewK, tB tDNewK)
  | .dis (.cons k v ps) _, W => let t := tDisp (((rd k W).1, (rd v W).1) :: rdP ps W); (t, tB t)
  | .idx a b _, W => let t := tOp (rIxA K) (rd a W).1 (rd b W).1; (t, tB t)
  | .sli a lo hi _ _, W => let t := tSl (rSlL K) (rd a W).1 (rdO lo W) (rdO hi W); (t, tB t)
  | .rev a _ _ _ _ _, W => let t := tRevL K (rd a W).1; (t, tB t)
  | .call f _ es _, W => let t : TE := fun σ H Q => rdA es W σ H fun vs H1 => fsp f vs H1 Q fun c d H' => W c d σ H'; (t, tB t)
  | .callk f _ _ es _, W => let t : TE := fun σ H Q => rdA es W σ H fun vs H1 => fsp f vs H1 Q fun c d H' => W c d σ H'; (t, tB t)
  | .bi b _ es _, W => let t := tCB (rBiO K Γ fsp b) (rdA es W); (t, tB t)
  | .isi a t _ _ _, W => let t := tCB (rIsi K) (tCons (rd a W).1 (tCons (tC (.ty t)) tNil)); (t, tB t)
  | .isiT a ts _ _ _ _, W => let t := tCB (rIsiT K) (tCons (rd a W).1 (tCons (tTup (tTys (ts.map (·.1)))) tNil)); (t, tB t)
  | .me m o _ es _, W => let t := rdMe K m (rd o W).1 (rdL es W); (t, tB t)
  | .lc elt x _ it c _ _, _ => let t := tLc (rdI it W0) (gName x) (rdC c W0) (rd elt W0).1 [x]; (t, tB t)
  | .srt _ elt x _ it c _ _ _, _ => let t := tCB (rSortedSet w) (tCons (tSK (kitI P w) (rdI it W0) (gName x) (rdC c W0) (rd elt W0).1 [x]) tNil); (t, tB t)
  | .srs _ _ e _ _, W => let t := tCB (rSortedSet w) (tCons (tCB (rSetOfI w K) (tCons (rd e W).1 tNil)) tNil); (t, tB t)
  | .att a f fld _, W => let t := tAtt K Γ f fld (rd a W).1; (t, tB t)
  | .isc a c _ _ _, W => let t := tCB (rIsi K) (tCons (rd a W).1 (tCons (tC (.ref (gaK K (gname Γ.ocl c)))) tNil)); (t, tB t)
  | .fst es _, W => let t : TE := fun σ H Q => tJs (rdL es W) Str.empty σ H fun out H1 => Q (.str out) H1; (t, tB t)
  | .fmt a rp _, W => let t := if rp then tFmtR (rd a W).1 else tFmt (rd a W).1; (t, tB t)
  | .told _ _ body _ _ _ _, _ => let t := tsp (fun E => (rd body fun c d _ H => E c d H).1); (t, tB t)
def rdA : Es → WX → TA
  | .nil, _ => tNil
  | .cons e es, W => tCons (rd e W).1 (rdA es W)
def rdL : Es → WX → List TE
  | .nil, _ => []
  | .cons e es, W => (rd e W).1 :: rdL es W
def rdB (op : BoolOp) : Es → WX → TE × TT
  | .nil, _ => (noE, fun _ _ _ => False)
  | .cons e .nil, W => rd e W
  | .cons e es, W => match op with
    | .And => (tAndV (rd e W).1 (rdB op es W).1, tAnd (rd e W).2 (rdB op es W).2)
    | .Or => (tOrV (rd e W).1 (rdB op es W).1, tOr (rd e W).2 (rdB op es W).2)
def rdC : Es → WX → TT
  | .nil, _ => tYes
  | .cons e .nil, W => (rd e W).2
  | _, _ => fun _ _ _ => False
def rdO : Option E → WX → TO
  | none, _ => tNoPart
  | some e, W => tPart (rd e W).1
def rdP : Ps → WX → List (TE × TE)
  | .nil, _ => []
  | .cons k v ps, W => ((rd k W).1, (rd v W).1) :: rdP ps W
def rdI : It → WX → TI
  | .seq e, W => iSeq K (rd e W).1
  | .rng1 _ e _, W => iRng1 (tCons (rd e W).1 tNil)
  | .rng2 _ a b _, W => iRng2 (tCons (rd a W).1 (tCons (rd b W).1 tNil))
end
end
end Mn

-- Ob0
set_option Elab.async false
set_option linter.all false
set_option maxRecDepth 100000
set_option maxHeartbeats 2000000
set_option autoImplicit false
namespace Mn
open PySem PySem.Spec PySem.W PySem.Calls PyProof.Rows
/-- what an own class says of a binary operator's method -/
structure OpOf (K : Frag) (C : Addr) (nm : String) (f : Addr) : Prop where
  sf : selfFirst K C = true
  hs : findIn K (.ref C) (PySem.dunder nm) = some (some (.ref f))
  fn : isFn K (.ref f) = true
  hr : findIn K (.ref C) (dunderR nm) = some none
section
variable {prog : Program} {w : World} {A : Around} {E : Value → Shared → Prop} {s : Shared} {K : Frag} {x y C D L f g : Addr} {h₀ : Heap} {m : Str → Option Value} {ox oy : Obj} {od oe : Option Obj}
/-- x op y, two own instances of two classes -/
theorem binop_two {op : Operator} {Q : Value → Shared → Prop} (F : Fr h₀ L s.heap m) (X₀ : K.In h₀) (I : InstAt s.heap x ox C od) (J : InstAt s.heap y oy D oe) (hne : C ≠ D) (c : OpOf K C op.info.2 f) (d : OpOf K D op.info.2 g) (hsub : subIn K (.ref D) (.ref C) = some false)
    (h : wpAny (model prog w) A (call (.ref f) [.ref x, .ref y]) (PySem.W.CmpBack Q) E s) : wpAny (model prog w) A (binaryOp op (.ref x) (.ref y)) Q E s := by
  have X := X₀.keeps F.keep
  obtain ⟨cd, rest, hcd, hm⟩ := ksp_first c.sf
  obtain ⟨cd2, rest2, hcd2, hm2⟩ := ksp_first d.sf
  obtain ⟨hsf, hs, hf, hr⟩ := c
  obtain ⟨_, hs2, _, hr2⟩ := d
  rcases hi : op.info with ⟨sym, nm'⟩
  rw [hi] at hs hr hs2 hr2
  dsimp only at hs hr hs2 hr2
  have one := ksp_try X I hs hf h
  obtain ⟨hh, g', d', tt, os⟩ := s
  have L1 : Looks (model prog w) hh (typeOf (.ref x)) (.ref C) := I.type
  have L2 : Looks (model prog w) hh (typeOf (.ref y)) (.ref D) := J.type
  have L3 : Looks (model prog w) hh (fillsNumberSlot (.ref C) nm') true := fills_K X hcd hm hs
  have L4 : Looks (model prog w) hh (fillsNumberSlot (.ref D) nm') true := fills_K X hcd2 hm2 hs2
  have L5 : Looks (model prog w) hh (isSubtype (.ref D) (.ref C)) false := looks_subIn X hsub
  have L6 : Looks (model prog w) hh (numberSlotInPython (.ref C) nm') true := ksp_inPy X hs hr (.inl rfl)
  have L7 : Looks (model prog w) hh (numberSlotInPython (.ref D) nm') true := ksp_inPy X hs2 hr2 (.inl rfl)
  have hne2 : (Value.ref C == Value.ref D) = false := Bool.eq_false_iff.mpr fun q => hne (by cases beq_iff_eq.mp q; rfl)
  simp only [binaryOp, hi]
  refine wpAny_holding (wpAny_bind ?_)
  unfold binaryOp1
  refine wpAny_bind (L1.at (wpAny_bind (L2.at (wpAny_bind (L3.at ?_)))))
  simp only [hne2, Bool.false_eq_true, if_false]
  ksp_lk
  refine wpAny_mono one (fun r s' hr' => ?_) fun _ _ e => e
  obtain ⟨v, rfl, hq⟩ := hr'
  ksp_lk
  exact hq
/-- a built-in method bound to an own instance -/
theorem ifBound_B {M : Model} {name : Str} {id : String} {T : String} {args : List Value} {Q : Option Value → Shared → Prop} (X : K.In s.heap) (I : InstAt s.heap x ox C od) (hs : findIn K (.ref C) name = some (some (.builtin id))) (S : Slot T name id)
    (h : wpAny M A (call (.builtin id) (.ref x :: args)) (fun v => Q (some v)) E s) : wpAny M A (callSpecialIfBound? (.ref x) name args) Q E s := by
  simp only [callSpecialIfBound?, bindSpecialIfBound?]
  refine wpAny_holding (wpAny_bind (wpAny_bind (wpAny_bind (I.type.here ((looks_findIn X hs).here ?_)))))
  simp only [S.bind]
  refine wpAny_bind (wpAny_askSetting (wpAny_ite ?_))
  have fin : wpAny M A (call (.builtin id) ([.ref x] ++ args) >>= fun v => pure (some v)) Q E s := wpAny_bind (wpAny_mono h (fun v s' h' => wpAny_pure h') fun _ _ h' => h')
  split
  · exact wpAny_bind (wpAny_pure (wpAny_pure fin))
  · exact wpAny_tryCatch (wpAny_bind (wpAny_pure (wpAny_pure fin)))
/-- a bool comes back -/
def BlBack (Q : Bool → Shared → Prop) (v : Value) (s' : Shared) : Prop := ∃ b, v = .bool b ∧ Q b s'
/-- x != b by object's __ne__ over an own __eq__ -/
theorem ne_own {b tb : Value} {Q : Value → Shared → Prop} (hu : A.units + 1 < cLine) (F : Fr h₀ L s.heap m) (X₀ : K.In h₀) (I : InstAt s.heap x ox C od) (hb : Looks (model prog w) s.heap (typeOf b) tb) (hn : notFirst K C tb = true)
    (hne : findIn K (.ref C) "__ne__" = some (some (.builtin "object.__ne__"))) (ho : mroIn K C (.type "object") = some true) (hs : findIn K (.ref C) "__eq__" = some (some (.ref f))) (hf : isFn K (.ref f) = true)
    (h : wpAny (model prog w) A.in1 (call (.ref f) [.ref x, b]) (BlBack fun r s' => Q (.bool (!r)) s') E s) : wpAny (model prog w) A (richCompare .NotEq (.ref x) b) Q E s := by
  have X := X₀.keeps F.keep
  have hu0 : A.units < cLine := Nat.lt_of_succ_lt hu
  have isO : Looks (model prog w) s.heap (isInstance (.ref x) (.type "object")) true := I.type.andThen (looks_mroIn X ho)
  have one : wpAny (model prog w) A (tryCompare (.ref x) "__ne__" b) (fun r s' => ∃ v, r = some v ∧ Q v s') E s := by
    unfold tryCompare
    refine wpAny_bind (ifBound_B X I hne PySem.F.cmp_object.ne (wpAny_call (codeAny_call_builtin PySem.F.cmp_object.ne.plain PySem.F.cmpEntry_ne (check_slot PySem.F.cmpKind_ne PySem.F.cmpSplit_ne isO (PySem.F.cmpArgs_ne _ _) ?_))))
    unfold Builtin.«object.__ne__»
    refine wpAny_bind (m := slotArgs "__ne__" 1 _) (wpAny_pure ?_)
    refine wpAny_bind (wpAny_cRoomFor hu ?_)
    refine wpAny_bind (m := callSpecialIfBound? (.ref x) (Str.ofString "__eq__") _) (ifBound_K X I hs hf (wpAny_mono h (fun r s' hr => ?_) fun _ _ y => y))
    obtain ⟨r, rfl, q⟩ := hr
    refine wpAny_bind (wpAny_of_eq (a := r) rfl ?_)
    exact wpAny_pure (wpAny_pure ⟨_, rfl, q⟩)
  unfold richCompare
  simp only [oneThing_ref]
  refine wpAny_holding (wpAny_bind (wpAny_cRoomFor hu0 ?_))
  refine wpAny_bind (I.type.here (wpAny_bind (hb.here ?_)))
  split
  · rename_i q
    have e : subIn K tb (.ref C) = some false := by
      rcases Bool.or_eq_true_iff.mp hn with e | e
      · rw [beq_iff_eq.mp e] at q; simp at q
      · exact beq_iff_eq.mp e
    refine wpAny_bind ((looks_subIn X e).here ?_)
    simp only [Bool.false_eq_true, if_false]
    refine wpAny_bind (wpAny_mono one (fun r s' z => ?_) fun _ _ e => e)
    obtain ⟨v, rfl, hq⟩ := z
    exact wpAny_pure hq
  · refine wpAny_bind (wpAny_pure ?_)
    simp only [Bool.false_eq_true, if_false]
    refine wpAny_bind (wpAny_mono one (fun r s' z => ?_) fun _ _ e => e)
    obtain ⟨v, rfl, hq⟩ := z
    exact wpAny_pure hq
/-- str(x) by an own __str__ -/
theorem str_own {Q : Value → Shared → Prop} (hu : A.units + 2 < cLine) (F : Fr h₀ L s.heap m) (X₀ : K.In h₀) (I : InstAt s.heap x ox C od) (hs : findIn K (.ref C) "__str__" = some (some (.ref f))) (hf : isFn K (.ref f) = true)
    (h : wpAny (model prog w) A.in1.in1 (call (.ref f) [.ref x]) (StrBack Q) E s) : wpAny (model prog w) A (call (.type "str") [.ref x]) Q E s := by
  have X := X₀.keeps F.keep
  refine callType_newIn PySem.F.called_str (by decide) (PySem.F.typeCall_str_1 _) (PySem.F.newCall_str_1 _) (fun obj => PySem.F.args_object_init_2 obj _) PySem.F.entry_str_new
    (S := fun A' R s' => wpAny (model prog w) A'.in1 (PySem.Builtin.Str.strOf (.ref x)) (fun r s'' => R (.ok (.ret r)) s'') (fun e s'' => R (.error e) s'') s') (.of_wp fun A' R s' h' => ?_) ?_
  · rw [str_new_tree]
    refine wpAny_bind (wpAny_pure ?_)
    refine wpAny_bind (wpAny_of_eq isSubtype_str_str ?_)
    exact wpAny_bind (wpAny_mono h' (fun r s' h' => wpAny_pure ⟨_, rfl, h'⟩) fun _ _ e => e)
  · unfold PySem.Builtin.Str.strOf
    show wpAny (model prog w) A.in1.in1 (cRoomFor "str" [.ref x] >>= fun _ => _) _ _ s
    refine wpAny_bind (wpAny_cRoomFor (show A.units + 1 + 1 < cLine from hu) ?_)
    refine wpAny_bind (m := callSpecial? (.ref x) (Str.ofString "__str__")) (special_fn X I hs (beq_iff_eq.mp hf) (wpAny_mono h (fun r s' hr => ?_) fun _ _ y => y))
    cases r <;> first | exact hr.elim | skip
    refine wpAny_bind (wpAny_pure ?_)
    exact wpAny_pure ⟨typeIs_str _ _ _, hr⟩
end
end Mn

-- Ob1
set_option Elab.async false
set_option linter.all false
set_option maxRecDepth 100000
set_option maxHeartbeats 2000000
set_option autoImplicit false
namespace Mn
open PySem PySem.Spec PySem.W PySem.Calls PyProof.Rows
/-! a built-in == an own instance: the built-in declines -/
theorem none_dec (l : Addr) : Gives (Builtin.«NoneType.__eq__» ⟨[.none, .ref l], []⟩) (.val (Value.notImplemented)) :=
  .of_wp fun M A E s Q h => by obtain ⟨hp, g, d, tk, os⟩ := s; wp_walk; exact ⟨_, rfl, h⟩
theorem int_dec (b : Int) (u : Tok) (l : Addr) (c : Value) (dd : Option Addr) (sl : Array (Option Value)) :
    Meets (Builtin.«int.__eq__» ⟨[.int b u, .ref l], []⟩) (fun _ R s => s.heap.get? l = some { cls := c, dict := dd, data := .plain, slots := sl } ∧ R (.ok (.ret .notImplemented)) s) :=
  .of_wp fun prog w A R s h => by obtain ⟨hp, g, d, tk, os⟩ := s; obtain ⟨hl, h⟩ := h; wp_walk using wpAny_loadPart' hl, wpAny_load hl; exact ⟨_, rfl, h⟩
theorem bool_dec (b : Bool) (l : Addr) (c : Value) (dd : Option Addr) (sl : Array (Option Value)) :
    Meets (Builtin.«int.__eq__» ⟨[.bool b, .ref l], []⟩) (fun _ R s => s.heap.get? l = some { cls := c, dict := dd, data := .plain, slots := sl } ∧ R (.ok (.ret .notImplemented)) s) :=
  .of_wp fun prog w A R s h => by obtain ⟨hp, g, d, tk, os⟩ := s; obtain ⟨hl, h⟩ := h; wp_walk using wpAny_loadPart' hl, wpAny_load hl; exact ⟨_, rfl, h⟩
theorem str_dec (b : Str) (u : Tok) (l : Addr) (c : Value) (dd : Option Addr) (sl : Array (Option Value)) :
    Meets (Builtin.«str.__eq__» ⟨[.str b u, .ref l], []⟩) (fun _ R s => s.heap.get? l = some { cls := c, dict := dd, data := .plain, slots := sl } ∧ R (.ok (.ret .notImplemented)) s) :=
  .of_wp fun prog w A R s h => by obtain ⟨hp, g, d, tk, os⟩ := s; obtain ⟨hl, h⟩ := h; wp_walk using wpAny_loadPart' hl, wpAny_load hl; exact ⟨_, rfl, h⟩
section
variable {prog : Program} {w : World} {K : Frag} {C : Addr}
theorem list_dec (a l : Addr) (hm : mroIn K C (.type "list") = some false) :
    MeetsIn prog w (Builtin.«list.__eq__» ⟨[.ref a, .ref l], []⟩) (fun _ R s => K.In s.heap ∧ (∃ ox oe, InstAt s.heap l ox C oe) ∧ R (.ok (.ret .notImplemented)) s) :=
  .of_wp fun A R s h => by
    obtain ⟨X, ⟨ox, oe, I⟩, h⟩ := h
    have isL : Looks (model prog w) s.heap (isInstance (.ref l) (.type "list")) false := I.type.andThen (looks_mroIn X hm)
    obtain ⟨hp, g, d, tk, os⟩ := s
    wp_walk using isL.at
    exact ⟨_, rfl, h⟩
theorem tup_dec (a l : Addr) (hm : mroIn K C (.type "tuple") = some false) :
    MeetsIn prog w (Builtin.«tuple.__eq__» ⟨[.ref a, .ref l], []⟩) (fun _ R s => K.In s.heap ∧ (∃ ox oe, InstAt s.heap l ox C oe) ∧ R (.ok (.ret .notImplemented)) s) :=
  .of_wp fun A R s h => by
    obtain ⟨X, ⟨ox, oe, I⟩, h⟩ := h
    have isL : Looks (model prog w) s.heap (isInstance (.ref l) (.type "tuple")) false := I.type.andThen (looks_mroIn X hm)
    obtain ⟨hp, g, d, tk, os⟩ := s
    wp_walk using isL.at
    exact ⟨_, rfl, h⟩
theorem dict_dec (a l : Addr) (hm : mroIn K C (.type "dict") = some false) :
    MeetsIn prog w (Builtin.«dict.__eq__» ⟨[.ref a, .ref l], []⟩) (fun _ R s => K.In s.heap ∧ (∃ ox oe, InstAt s.heap l ox C oe) ∧ R (.ok (.ret .notImplemented)) s) :=
  .of_wp fun A R s h => by
    obtain ⟨X, ⟨ox, oe, I⟩, h⟩ := h
    have isL : Looks (model prog w) s.heap (isInstance (.ref l) (.type "dict")) false := I.type.andThen (looks_mroIn X hm)
    obtain ⟨hp, g, d, tk, os⟩ := s
    wp_walk using isL.at
    exact ⟨_, rfl, h⟩
end
section
variable {prog : Program} {w : World} {A : Around} {E : Value → Shared → Prop} {s : Shared} {K : Frag} {y C L f : Addr} {h₀ : Heap} {m : Str → Option Value} {oy : Obj} {oe : Option Obj}
/-- v == y, v of a built-in type that declines, y an own instance -/
theorem eq_right {v : Value} {T : String} {Q : Value → Shared → Prop} (hu : A.units < cLine) (F : Fr h₀ L s.heap m) (X₀ : K.In h₀) (I : InstAt s.heap y oy C oe) (hv : Looks (model prog w) s.heap (typeOf v) (.type T)) (hsub : mroIn K C (.type T) = some false)
    (h1 : oneThing? .Eq v (.ref y) = none) (dec : ∀ P : Option Value → Shared → Prop, P none s → wpAny (model prog w) A (tryCompare v "__eq__" (.ref y)) P E s)
    (hs : findIn K (.ref C) "__eq__" = some (some (.ref f))) (hf : isFn K (.ref f) = true)
    (h : wpAny (model prog w) A (call (.ref f) [.ref y, v]) (PySem.W.CmpBack Q) E s) : wpAny (model prog w) A (richCompare .Eq v (.ref y)) Q E s := by
  have X := X₀.keeps F.keep
  have two : wpAny (model prog w) A (tryCompare (.ref y) "__eq__" v) (fun r s' => ∃ v, r = some v ∧ Q v s') E s := by
    unfold tryCompare
    refine wpAny_bind (ifBound_K X I hs hf (wpAny_mono h (fun v s' hv => ?_) fun _ _ e => e))
    cases v <;> first | exact hv.elim | exact wpAny_pure ⟨_, rfl, hv⟩
  unfold richCompare
  simp only [h1]
  refine wpAny_holding (wpAny_bind (wpAny_cRoomFor hu ?_))
  refine wpAny_bind (hv.here (wpAny_bind (I.type.here ?_)))
  have ne : (Value.type T != Value.ref C) = true := by simp
  simp only [ne, if_true]
  refine wpAny_bind ((looks_mroIn X hsub).here ?_)
  simp only [Bool.false_eq_true, if_false]
  refine wpAny_bind (dec _ ?_)
  refine wpAny_bind (wpAny_mono two (fun r s' z => ?_) fun _ _ e => e)
  obtain ⟨v, rfl, hq⟩ := z
  exact wpAny_pure hq
theorem dec_none (P : Option Value → Shared → Prop) (h : P none s) : wpAny (model prog w) A (tryCompare .none "__eq__" (.ref y)) P E s :=
  wpAny_tryCompare_declines (T := "NoneType") rfl PySem.F.slot_NoneType_eq (call_gives PySem.F.slot_NoneType_eq rfl PySem.F.entry_NoneType_eq (PySem.F.args_NoneType_eq_2 _ _) (none_dec y) ⟨rfl, h⟩)
theorem dec_int {i : Int} {t : Tok} {c : Value} {dd : Option Addr} {sl : Array (Option Value)} (ho : s.heap.get? y = some { cls := c, dict := dd, data := .plain, slots := sl }) (P : Option Value → Shared → Prop) (h : P none s) : wpAny (model prog w) A (tryCompare (.int i t) "__eq__" (.ref y)) P E s :=
  wpAny_tryCompare_declines (typeIs_int s i t) PySem.F.slot_int_eq (call_meets PySem.F.slot_int_eq (typeIs_int s i t) PySem.F.entry_int_eq (PySem.F.args_int_eq_2 _ _) (int_dec i t y c dd sl) ⟨ho, rfl, h⟩)
theorem dec_bool {i : Bool} {c : Value} {dd : Option Addr} {sl : Array (Option Value)} (ho : s.heap.get? y = some { cls := c, dict := dd, data := .plain, slots := sl }) (P : Option Value → Shared → Prop) (h : P none s) : wpAny (model prog w) A (tryCompare (.bool i) "__eq__" (.ref y)) P E s :=
  wpAny_tryCompare_declines (T := "bool") rfl PySem.F.slot_bool_eq (call_meets PySem.F.slot_bool_eq rfl PySem.F.entry_int_eq (PySem.F.args_int_eq_2 _ _) (bool_dec i y c dd sl) ⟨ho, rfl, h⟩)
theorem dec_str {i : Str} {t : Tok} {c : Value} {dd : Option Addr} {sl : Array (Option Value)} (ho : s.heap.get? y = some { cls := c, dict := dd, data := .plain, slots := sl }) (P : Option Value → Shared → Prop) (h : P none s) : wpAny (model prog w) A (tryCompare (.str i t) "__eq__" (.ref y)) P E s :=
  wpAny_tryCompare_declines (typeIs_str s i t) PySem.F.slot_str_eq (call_meets PySem.F.slot_str_eq (typeIs_str s i t) PySem.F.entry_str_eq (PySem.F.args_str_eq_2 _ _) (str_dec i t y c dd sl) ⟨ho, rfl, h⟩)
theorem dec_list {a : Addr} (hT : s.TypeIs (.ref a) "list") (X : K.In s.heap) (I : InstAt s.heap y oy C oe) (hm : mroIn K C (.type "list") = some false) (P : Option Value → Shared → Prop) (h : P none s) : wpAny (model prog w) A (tryCompare (.ref a) "__eq__" (.ref y)) P E s :=
  wpAny_tryCompare_declines hT PySem.F.slot_list_eq (call_meetsIn PySem.F.slot_list_eq hT PySem.F.entry_list_eq (PySem.F.args_list_eq_2 _ _) (list_dec a y hm) ⟨X, ⟨_, _, I⟩, rfl, h⟩)
theorem dec_tup {a : Addr} (hT : s.TypeIs (.ref a) "tuple") (X : K.In s.heap) (I : InstAt s.heap y oy C oe) (hm : mroIn K C (.type "tuple") = some false) (P : Option Value → Shared → Prop) (h : P none s) : wpAny (model prog w) A (tryCompare (.ref a) "__eq__" (.ref y)) P E s :=
  wpAny_tryCompare_declines hT PySem.F.slot_tuple_eq (call_meetsIn PySem.F.slot_tuple_eq hT PySem.F.entry_tuple_eq (PySem.F.args_tuple_eq_2 _ _) (tup_dec a y hm) ⟨X, ⟨_, _, I⟩, rfl, h⟩)
theorem dec_dict {a : Addr} (hT : s.TypeIs (.ref a) "dict") (X : K.In s.heap) (I : InstAt s.heap y oy C oe) (hm : mroIn K C (.type "dict") = some false) (P : Option Value → Shared → Prop) (h : P none s) : wpAny (model prog w) A (tryCompare (.ref a) "__eq__" (.ref y)) P E s :=
  wpAny_tryCompare_declines hT PySem.F.slot_dict_eq (call_meetsIn PySem.F.slot_dict_eq hT PySem.F.entry_dict_eq (PySem.F.args_dict_eq_2 _ _) (dict_dec a y hm) ⟨X, ⟨_, _, I⟩, rfl, h⟩)
end
end Mn

-- Mn4
set_option Elab.async false
set_option linter.all false
set_option maxRecDepth 100000
set_option autoImplicit false
namespace Mn
open PySem PySem.Spec L2

/-! ## each piece has its reading -/
def isGl (sc : Scope) (x : Str) : Bool := decide (sc.names.lookup x = some .globalImplicit) && !(x == ("__debug__" : Str))
def isVis (sc : Scope) (x : Str) : Bool := (decide (sc.names.lookup x = some .local) || decide (sc.names.lookup x = some .cell) || decide (sc.names.lookup x = some .free)) && !(x == ("__debug__" : Str)) && !(x == ("__classdict__" : Str))
def elen : Es → Nat
  | .nil => 0
  | .cons _ es => elen es + 1
def plen : Ps → Nat
  | .nil => 0
  | .cons _ _ es => plen es + 1
def isVD : E → Bool
  | .var _ _ => true
  | .dis _ _ => true
  | _ => false
/-- the scope one stands in; whether lambdas are made there -/
structure Sk where
  s : Scope
  lm : Bool
/-- a text, an item of a dict display: what join is asked of -/
def isCI : E → Bool
  | .con _ _ _ => true
  | .idx _ _ _ => true
  | _ => false
def isNoArgs (a : Arguments) : Bool := a.posonlyargs.isEmpty && a.args.isEmpty && a.vararg.isNone && a.kwonlyargs.isEmpty && a.kw_defaults.isEmpty && a.kwarg.isNone && a.defaults.isEmpty
section
variable (Γ : Gam) (N : List Str)
mutual
def wfE : Sk → E → Bool
  | sc, .var i _ => decide (i < N.length) && isVis sc.s (gname N i)
  | _, .con c _ _ => cOk c
  | sc, .glo g _ => decide (g < Γ.gls.length) && isGl sc.s (gname Γ.gls g)
  | sc, .bin _ a b _ => wfE sc a && wfE sc b
  | sc, .neg a _ => wfE sc a
  | sc, .nt a _ => wfE sc a
  | sc, .bop _ es _ => wfB sc es
  | sc, .cmp _ a b _ => wfE sc a && wfE sc b
  | sc, .ife c a b _ => wfE sc c && wfE sc a && wfE sc b
  | sc, .lst es _ => wfs sc es
  | sc, .tup es _ _ => wfs sc es
  | sc, .dis kvs _ => wfP sc kvs && decide (plen kvs ≤ 15)
  | sc, .idx a b _ => wfE sc a && wfE sc b
  | sc, .sli a lo hi _ _ => wfE sc a && wfO sc lo && wfO sc hi
  | sc, .rev a _ _ _ _ _ => wfE sc a
  | sc, .call f _ es _ => wfs sc es && decide (f < Γ.fns.length) && isGl sc.s (gname Γ.fns f)
  | sc, .callk f _ ks es _ => wfs sc es && decide (f < Γ.fns.length) && isGl sc.s (gname Γ.fns f) && decide (ks.length = elen es) && decide ((f, ks.map (·.1)) ∈ Γ.kws)
  | sc, .bi b _ es _ => wfs sc es && decide (0 < elen es) && isGl sc.s b.nm
  | sc, .isi a t _ _ _ => wfE sc a && isGl sc.s "isinstance" && isGl sc.s (Str.ofString t) && decide (bootBuiltins (Str.ofString t) = some (.type t)) && decide (Str.ofString t ≠ "__name__")
  | sc, .isiT a ts _ _ _ _ => wfE sc a && isGl sc.s "isinstance" && ts.all fun t => isGl sc.s (Str.ofString t.1) && decide (bootBuiltins (Str.ofString t.1) = some (.type t.1)) && decide (Str.ofString t.1 ≠ "__name__")
  | sc, .me m o q es p => wfE sc o && wfs sc es && (q.endLine == p.line) && decide (elen es < 29) && (elen es == (match m with | .append => 1 | .insert => 2 | .get => 2 | .pop => 1 | .join => 1)) && (isVD o || (match m with | .join => isCI o | _ => false))
  | sc, .lc elt x _ it c sc' _ => wfI sc it && decide (x < N.length) && blkC N sc.s sc' [(gname N x, x)] && decide ((relS sc' sc.s).names.lookup (gname N x) = some .local) && wfE ⟨relS sc' sc.s, false⟩ elt && wfC ⟨relS sc' sc.s, false⟩ c
  | sc, .srt _ elt x _ it c sc' _ _ => isGl sc.s "sorted" && wfI sc it && decide (x < N.length) && blkC N sc.s sc' [(gname N x, x)] && decide ((relS sc' sc.s).names.lookup (gname N x) = some .local) && wfE ⟨relS sc' sc.s, false⟩ elt && wfC ⟨relS sc' sc.s, false⟩ c
  | sc, .srs _ _ e _ _ => isGl sc.s "sorted" && isGl sc.s "set" && wfE sc e
  | sc, .att a _ _ _ => wfE sc a && isVD a
  | sc, .isc a c _ _ _ => wfE sc a && isGl sc.s "isinstance" && decide (c < Γ.ocl.length) && isGl sc.s (gname Γ.ocl c)
  | sc, .fst es _ => wfs sc es && decide (2 ≤ elen es)
  | sc, .fmt a _ _ => wfE sc a
  | sc, .told f _ body ar scope _ _ => decide (gname Γ.fns f = Γ.told) && isGl sc.s Γ.told && sc.lm && LamX.lamSB sc.s scope && isNoArgs ar && wfE ⟨scope, false⟩ body
def wfs : Sk → Es → Bool
  | _, .nil => true
  | sc, .cons e es => wfE sc e && wfs sc es
def wfB : Sk → Es → Bool
  | _, .nil => false
  | sc, .cons e .nil => wfE sc e
  | sc, .cons e es => wfE sc e && wfB sc es
def wfC : Sk → Es → Bool
  | _, .nil => true
  | sc, .cons e .nil => wfE sc e
  | _, _ => false
def wfO : Sk → Option E → Bool
  | _, none => true
  | sc, some e => wfE sc e
def wfP : Sk → Ps → Bool
  | _, .nil => true
  | sc, .cons k v ps => wfE sc k && wfE sc v && wfP sc ps
def wfI : Sk → It → Bool
  | sc, .seq e => wfE sc e
  | sc, .rng1 _ e _ => wfE sc e && isGl sc.s "range"
  | sc, .rng2 _ a b _ => wfE sc a && wfE sc b && isGl sc.s "range"
end
end

/-- the maker of lambdas: its code object, the table of these -/
def LamOk (Ω : Wd) (lv : Nat) (X : Cx) : Prop := Room (lv + 4) X.A ∧ ∃ c P, X.env.code = .ref c ∧ LamX.TabB X.base X.mg c P ∧ (P, X.env.qual ++ "<lambda>") ∈ Ω.T ∧ ∀ p ∈ Ω.T, p.1 = P → p.2 = X.env.qual ++ "<lambda>"
structure Good (Ω : Wd) (N : List Str) (sk : Sk) (lv : Nat) (X : Cx) : Prop where
  P : X.prog = Ω.P
  w : X.w = Ω.w
  K : X.K = Ω.K
  mg : X.mg = Ω.mg
  base : X.base = Ω.base
  N : X.N = N
  nd : X.N.Nodup
  sc : X.env.scope = sk.s
  lam : sk.lm = true → LamOk Ω lv X
  calm : X.calm = true
  room : Room (lv + 2) X.A
  grd : X.A.guards = some []
  pass : PassesOwn (model X.prog X.w) X.A X.env X.xe
/-- the def that is handed lambdas: what it makes of their reading -/
def TellOk (Ω : Wd) (N : List Str) (lv : Nat) (tsp : (XK → TE) → TE) : Prop := ∀ (sc : Sk) (X : Cx), Good Ω N sc lv X → sc.lm = true → ∀ (ar : Arguments) (body : Expr) (scope : Scope) (t : XK → TE) (q lp p : Pos),
  isGl sc.s Ω.Γ.told = true → LamX.LamS X.env.scope scope → isNoArgs ar = true →
  (∀ (A : Around) (outer : List Env) (s : Shared) (H : Hp) (E : XK) (f c' : Addr), Room (lv + 2) (A.deeper (LamX.lamEnv X scope s.heap.objs.size f c')) → A.guards = some [] → PE (LamX.lamCx X A outer s H E scope f c') body (t E)) →
  PE X (.Call (.Name Ω.Γ.told q) [.Lambda ar body scope lp] [] p) (tsp t)

/-- a def keeps its promise, called in a way mk, nothing being shown -/
def FnGA (Ω : Wd) (k : Nat) (f : Addr) (mk : List Value → Args) (sp : Sp) : Prop :=
  ∀ (A : Around) (outer : List Env) (s : Shared) (H : Hp) (us : List Value) (vs : List V) (Q : VK) (E : XK), Room k A → A.guards = some [] → Env0 Ω.P Ω.w Ω.K Ω.mg Ω.base A outer s H → Vals vs us → sp vs H Q E →
    codeAny (model Ω.P Ω.w) A (.call (.ref f) (mk us)) (CR (L2.CX Ω.P Ω.w) outer Ω.P Ω.w H s Q E) s
abbrev FnG (Ω : Wd) (k : Nat) (f : Addr) (sp : Sp) : Prop := FnGA Ω k f (fun us => ⟨us, []⟩) sp

/-- what stands written of an own class -/
structure OwnC (K : PySem.W.Frag) (Γ : Gam) (C : Str) : Prop where
  sf : PySem.W.selfFirst K (gaK K C) = true
  ra : PySem.W.findIn K (.ref (gaK K C)) "__rand__" = some none
  ro : PySem.W.findIn K (.ref (gaK K C)) "__ror__" = some none
  ne : PySem.W.findIn K (.ref (gaK K C)) "__ne__" = some (some (.builtin "object.__ne__"))
  ob : PySem.W.mroIn K (gaK K C) (.type "object") = some true
  no : ∀ T ∈ blt7, PySem.W.mroIn K (gaK K C) (.type T) = some false
  ty : ∀ T ∈ blt7, PySem.W.subIn K (.type T) (.ref (gaK K C)) = some false
  tw : ∀ D m f, Γ.mth.lookup (D, m) = some f → D ≠ C → gaK K D ≠ gaK K C ∧ PySem.W.subIn K (.ref (gaK K D)) (.ref (gaK K C)) = some false
  cl : Cls K (gaK K C)
/-- the own classes: methods keep their promises; properties -/
structure Owns (Ω : Wd) (fsp : Nat → Sp) (lv : Nat) : Prop where
  mth : ∀ C m f, Ω.Γ.mth.lookup (C, m) = some f → OwnC Ω.K Ω.Γ C ∧ PySem.W.findIn Ω.K (.ref (gaK Ω.K C)) m = some (some (.ref (Ω.fa f))) ∧ PySem.W.isFn Ω.K (.ref (Ω.fa f)) = true ∧ FnG Ω lv (Ω.fa f) (fsp f)
  cls : ∀ c, c < Ω.Γ.ocl.length → Ω.mg (gname Ω.Γ.ocl c) = some (.ref (gaK Ω.K (gname Ω.Γ.ocl c)))
  sub : ∀ C l, Ω.Γ.sub.lookup C = some l → (∀ c, c < Ω.Γ.ocl.length → PySem.W.kitOne Ω.K (.ref (gaK Ω.K C)) (.ref (gaK Ω.K (gname Ω.Γ.ocl c))) = some (l.contains c)) ∧
    Cls Ω.K (gaK Ω.K C) ∧ PySem.W.findIn Ω.K (.ref (gaK Ω.K C)) (Str.ofString "__class__") = some (some (.builtin "object.__class__")) ∧ PySem.W.mroIn Ω.K (gaK Ω.K C) (.type "object") = some true
  get : PySem.W.specialIn Ω.K (.builtin "object.__class__") (Str.ofString "__get__") = some (some (.builtin "getset_descriptor.__get__")) ∧ PySem.W.takesIn Ω.K (.builtin "object.__class__") = some true
  sub0 : ∀ T ∈ blt7, ∀ c, c < Ω.Γ.ocl.length → PySem.W.kitOne Ω.K (.type T) (.ref (gaK Ω.K (gname Ω.Γ.ocl c))) = some false
  prp : ∀ C f fld, (C, f, fld) ∈ Ω.Γ.prp → Cls Ω.K (gaK Ω.K C) ∧ ∃ p g fd, PropOf Ω.K (gaK Ω.K C) f p g ∧ FnOk Ω.P Ω.w Ω.K Ω.mg Ω.base C8.CX0 1 g fd ["self"] (getSp (gaK Ω.K C) fld) ∧ Binds Ω.K fd ["self"] []
/-- what stands written -/
structure Facts (Ω : Wd) (fsp : Nat → Sp) (lv : Nat) : Prop where
  gls : ∀ g, g < Ω.Γ.gls.length → ∃ u, Ω.mg (gname Ω.Γ.gls g) = some u ∧ RelV (Ω.gv g) u
  bis : ∀ b : Bi, Ω.mg b.nm = none
  isi : Ω.mg "isinstance" = none
  rng : Ω.mg "range" = none
  set : Ω.mg "set" = none
  sys : ∃ o, Ω.base.get? sysModules = some o ∧ o.cls ≠ .type "list"
  tys : ∀ t : String, bootBuiltins (Str.ofString t) = some (.type t) → Ω.mg (Str.ofString t) = none
  fns : ∀ f, f < Ω.Γ.fns.length → Ω.mg (gname Ω.Γ.fns f) = some (.ref (Ω.fa f)) ∧ PySem.W.keepIn Ω.K (.ref (Ω.fa f)) = true ∧ FnG Ω lv (Ω.fa f) (fsp f)
  kws : ∀ p ∈ Ω.Γ.kws, FnGA Ω lv (Ω.fa p.1) (fun us => ⟨[], p.2.zip us⟩) (fsp p.1)
  own : Owns Ω fsp lv

section
variable {Γ : Gam} {N : List Str}
theorem star_up (e : E) (es : List Expr) (env : Env) : starEach (up Γ N e :: es) env = (false, eval (up Γ N e) env) :: starEach es env := by
  cases e <;> (simp only [up]; rfl)
theorem plain_up (e : E) : PlainIx (up Γ N e) := by
  intro o i
  cases e <;> (simp only [up]; rfl)
theorem base_up (e : E) (m : Str) (env : Env) (w : Sem Value) (h : isVD e = true) : attributeBase (up Γ N e) m env w = w := by
  cases e <;> first | (cases h; done) | (simp only [up]; rfl)
theorem swap_up (e : E) (t : Option Expr) (l : Nat) (env : Env) (h : ∀ elt x xp it c sc p, e ≠ .lc elt x xp it c sc p) : swapsWith (up Γ N e) t l env = pure false := by
  cases e <;> first | exact absurd rfl (h _ _ _ _ _ _ _) | (simp only [up]; rfl)
theorem ups_len : ∀ es : Es, (ups Γ N es).length = elen es
  | .nil => rfl
  | .cons e es => congrArg Nat.succ (ups_len es)
theorem stars_up : ∀ (es : Es) (env : Env) (pos : Pos), (backTo pos (starEach (ups Γ N es) env)).any (·.1) = false
  | .nil, _, _ => rfl
  | .cons e es, env, pos => by
    simp only [ups]
    rw [star_up]
    show (false || (backTo pos (starEach (ups Γ N es) env)).any (·.1)) = false
    rw [stars_up es env pos] <;> rfl
theorem starsN_up : ∀ (es : Es) (env : Env) (pos : Pos), (backTo pos (starEach (ups Γ N es) env)).all (fun x => !x.1) = true
  | .nil, _, _ => rfl
  | .cons e es, env, pos => by
    simp only [ups]
    rw [star_up]
    show (true && (backTo pos (starEach (ups Γ N es) env)).all (fun x => !x.1)) = true
    rw [starsN_up es env pos] <;> rfl
end

section
variable {Ω : Wd} {N : List Str} {sc : Sk} {lv : Nat} {X : Cx} {fsp : Nat → Sp}
theorem Good.gl (g : Good Ω N sc lv X) {x : Str} (h : isGl sc.s x = true) : Gl X x ∧ (x == ("__debug__" : Str)) = false := by
  unfold isGl at h
  simp only [Bool.and_eq_true, decide_eq_true_eq, Bool.not_eq_true'] at h
  refine ⟨?_, h.2⟩
  show X.env.scope.names.lookup x = some .globalImplicit
  rw [g.sc]
  exact h.1
theorem Good.vis (g : Good Ω N sc lv X) {x : Str} (h : isVis sc.s x = true) : Vis X.env.scope x ∧ (x == ("__debug__" : Str)) = false ∧ (x == ("__classdict__" : Str)) = false := by
  unfold isVis at h
  simp only [Bool.and_eq_true, Bool.or_eq_true, decide_eq_true_eq, Bool.not_eq_true'] at h
  refine ⟨?_, h.1.2, h.2⟩
  rw [g.sc]
  rcases h.1.1 with (h | h) | h
  · exact .inl h
  · exact .inr (.inl h)
  · exact .inr (.inr h)
theorem gname_at {l : List Str} {i : Nat} (h : i < l.length) : l[i]? = some (gname l i) := by
  unfold gname
  rw [List.getD_eq_getElem?_getD, List.getElem?_eq_getElem h] <;> rfl
theorem op_bin (op : Operator) : OpR X (binaryOp op) (rBin op) := by
  cases op <;> first
    | exact op_add.or (op_add_str.or op_cat)
    | exact op_sub
    | exact op_mul.or op_rep
    | exact op_fdiv
    | exact op_mod
    | exact op_pow
    | exact fun _ _ _ _ _ _ _ _ _ _ _ _ h => h.elim
theorem op_cmp (g : Good Ω N sc lv X) (op : CmpOp) : OpR X (compareOp op) (rCmp Ω.K op) := by
  rw [← g.K]
  cases op <;> first
    | exact op_lt
    | exact op_le
    | exact op_gt
    | exact op_ge
    | exact op_eqD g.room.units
    | exact op_neD g.room.units
    | exact op_in_seq
    | exact op_notIn_seq
    | exact op_isBl.or op_isN
    | exact fun _ _ _ _ _ _ _ _ _ _ _ _ h => h.elim
theorem mark_up (op : CmpOp) (Γ : Gam) (N : List Str) (e : E) : behindInMarks op (up Γ N e) = false := by
  cases e <;> (simp only [up]; rfl)
theorem iseq_ok {tg l : Expr} {t : TE} (g : Good Ω N sc lv X) (h : PE X l t) : PI X tg l (iSeq Ω.K t) := by
  rw [← g.K]
  refine ⟨fun pins s σ H R I q => ?_⟩
  rcases q with q | q
  · exact (pi_list h).run pins s σ H R I q
  · exact (pi_tup h).run pins s σ H R I q
/-- the callee runs -/
theorem run_fg {f : Addr} {sp : Sp} {W : WX} {mk : List Value → Args} {pins : List (Addr × Obj)} {σ : L2.St} {H : Hp} {s : Shared} {Q : VK} {us : List Value} {vs : List V} (g : Good Ω N sc lv X) (F : FnGA Ω lv f mk sp) (tk : Takes X W)
    (I : Inv X pins σ H s) (r : Vals vs us) (h : sp vs H Q fun c d H' => W c d σ H') : wpAny (model X.prog X.w) X.A (call (.ref f) (mk us).pos (mk us).kw) (EP X pins σ Q) X.xe s := by
  have e0 := I.env0
  rw [g.P, g.w, g.K, g.mg, g.base] at e0
  have z := F X.A X.stack s H us vs Q (fun c d H' => W c d σ H') (g.room.mono (by omega)) g.grd e0 r h
  rw [← g.P, ← g.w] at z
  refine wpAny_call (codeAny_mono z fun r s' hq => ?_)
  cases r with
  | error e =>
    refine tk e s' (XE.of_call (W := W) I (fun _ _ _ q => q) ?_)
    exact hq
  | ok fl =>
    cases fl with
    | ret u => exact I.after hq
    | next => exact False.elim hq
    | brk => exact False.elim hq
    | cont => exact False.elim hq
end
end Mn

-- Ob2
set_option Elab.async false
set_option linter.all false
set_option maxRecDepth 100000
set_option maxHeartbeats 2000000
set_option autoImplicit false
namespace Mn
open PySem PySem.Spec L2 PyProof.Rows
section
variable {Ω : Wd} {N : List Str} {sc : Sk} {lv : Nat} {X : Cx} {fsp : Nat → Sp}
/-- the promise of the method f at these values, where nothing is raised -/
theorem run_own {f : Nat} {C m : Str} {pins : List (Addr × Obj)} {σ : L2.St} {H : Hp} {s : Shared} {Q : VK} {us : List Value} {vs : List V} (g : Good Ω N sc lv X) (fx : Facts Ω fsp lv) (l : Ω.Γ.mth.lookup (C, m) = some f)
    (I : Inv X pins σ H s) (r : Vals vs us) (h : fsp f vs H Q E00) : wpAny (model X.prog X.w) X.A (call (.ref (Ω.fa f)) us) (EP X pins σ Q) X.xe s :=
  run_fg (W := W0) g (fx.own.mth C m f l).2.2.2 takes_none5 I r h
theorem op_ownB (g : Good Ω N sc lv X) (fx : Facts Ω fsp lv) (op : Operator) (hop : op = .BitAnd ∨ op = .BitOr) : OpR X (binaryOp op) (rOwnB Ω.K Ω.Γ fsp (opNm3 op)) := by
  intro pins s σ H x y v u Q I rx ry ⟨C, D, f, ⟨a, dx, fs, ex, ea⟩, ⟨b, dy, gs, ey, eb⟩, l1, l2, q⟩
  subst ex ey
  obtain rfl : v = Value.ref a := rx
  obtain rfl : u = Value.ref b := ry
  obtain ⟨mA, OA, _⟩ := ins_get I.hok ea
  obtain ⟨mB, OB, _⟩ := ins_get I.hok eb
  obtain ⟨oa, IA, _⟩ := OA.look
  obtain ⟨ob, IB, _⟩ := OB.look
  obtain ⟨m, F⟩ := I.fr
  obtain ⟨cC, h1, h2, _⟩ := fx.own.mth C _ f l1
  obtain ⟨f2, l2⟩ := Option.isSome_iff_exists.mp l2
  obtain ⟨cD, k1, k2, _⟩ := fx.own.mth D _ f2 l2
  have cl0 := run_own g fx l1 I (us := [.ref a, .ref b]) (vs := [.ref a, .ref b]) (.cons rfl (.cons rfl .nil)) q
  have cl1 : wpAny (model X.prog X.w) X.A (call (.ref (Ω.fa f)) [.ref a, .ref b]) (PySem.W.CmpBack (EP X pins σ Q)) X.xe s := by
    refine wpAny_mono cl0 (fun v s' z => ?_) fun _ _ e => e
    obtain ⟨w, H', J, rw, q'⟩ := z
    cases v <;> first | exact ⟨w, H', J, rw, q'⟩ | (cases w <;> first | (cases rw; done) | (obtain ⟨t, rw⟩ := rw; cases rw))
  have OC : OpOf Ω.K (gaK Ω.K C) op.info.2 (Ω.fa f) := ⟨cC.sf, by rcases hop with rfl | rfl <;> exact h1, h2, by rcases hop with rfl | rfl; exact cC.ra; exact cC.ro⟩
  have OD : OpOf Ω.K (gaK Ω.K D) op.info.2 (Ω.fa f2) := ⟨cD.sf, by rcases hop with rfl | rfl <;> exact k1, k2, by rcases hop with rfl | rfl; exact cD.ra; exact cD.ro⟩
  have kin : Ω.K.In X.base := by rw [← g.K]; exact I.ok.mod.kin
  by_cases e : D = C
  · subst e
    exact PySem.W.binop_K F kin IA IB.type OC.sf OC.hs OC.fn cl1
  · obtain ⟨ne, sb⟩ := cC.tw D _ f2 l2 e
    exact binop_two F kin IA IB (fun z => ne z.symm) OC OD sb cl1
/-- the same, the call being deeper in built-ins -/
theorem run_ownA {f : Nat} {C m : Str} {A' : Around} {pins : List (Addr × Obj)} {σ : L2.St} {H : Hp} {s : Shared} {Q : VK} {us : List Value} {vs : List V} (g : Good Ω N sc lv X) (fx : Facts Ω fsp lv) (l : Ω.Γ.mth.lookup (C, m) = some f)
    (hr : Room lv A') (hg : A'.guards = some []) (e0 : Env0 X.prog X.w X.K X.mg X.base A' X.stack s H) (I : Inv X pins σ H s) (r : Vals vs us) (h : fsp f vs H Q E00) : wpAny (model X.prog X.w) A' (call (.ref (Ω.fa f)) us) (EP X pins σ Q) X.xe s := by
  rw [g.P, g.w, g.K, g.mg, g.base] at e0
  have z := (fx.own.mth C m f l).2.2.2 A' X.stack s H us vs Q E00 hr hg e0 r h
  rw [← g.P, ← g.w] at z
  refine wpAny_call (codeAny_mono z fun r s' hq => ?_)
  cases r with
  | error e =>
    refine takes_none5 e s' (XE.of_call (W := W0) I (fun _ _ _ q => q) ?_)
    exact hq
  | ok fl =>
    cases fl with
    | ret u => exact I.after hq
    | next => exact False.elim hq
    | brk => exact False.elim hq
    | cont => exact False.elim hq
/-- what the right side's type must be -/
theorem kd_type {y : V} {u : Value} {C : Str} {pins : List (Addr × Obj)} {σ : L2.St} {H : Hp} {s : Shared} (g : Good Ω N sc lv X) (c : OwnC Ω.K Ω.Γ C) (I : Inv X pins σ H s) (ry : RelV y u) (h : KdA Ω.K H y) :
    ∃ tb, PySem.W.Looks (model X.prog X.w) s.heap (typeOf u) tb ∧ PySem.W.notFirst Ω.K (gaK Ω.K C) tb = true := by
  obtain ⟨T, hT, ty⟩ := h
  rw [← g.K] at ty
  obtain ⟨P, Z, hp, _⟩ := kit_of I ry ty
  refine ⟨_, Z.ty _ _ I.kIn hp, ?_⟩
  unfold PySem.W.notFirst
  rw [c.ty T hT]
  simp
theorem own_type {D m : Str} {f2 : Nat} {b : Addr} {C : Str} {dy : Addr} {gs : List (Str × V)} {pins : List (Addr × Obj)} {σ : L2.St} {H : Hp} {s : Shared} (c : OwnC Ω.K Ω.Γ C) (I : Inv X pins σ H s) (eb : H b = some (.ins (gaK Ω.K D) dy gs)) (l2 : Ω.Γ.mth.lookup (D, m) = some f2) :
    ∃ tb, PySem.W.Looks (model X.prog X.w) s.heap (typeOf (.ref b)) tb ∧ PySem.W.notFirst Ω.K (gaK Ω.K C) tb = true := by
  obtain ⟨mB, OB, _⟩ := ins_get I.hok eb
  obtain ⟨ob, IB, _⟩ := OB.look
  refine ⟨_, IB.type, ?_⟩
  unfold PySem.W.notFirst
  by_cases e : D = C
  · subst e
    simp
  · rw [(c.tw D _ f2 l2 e).2]
    simp
theorem op_ownL (g : Good Ω N sc lv X) (fx : Facts Ω fsp lv) (neg : Bool) : OpR X (compareOp (if neg then .NotEq else .Eq)) (rOwnL Ω.K Ω.Γ fsp neg) := by
  intro pins s σ H x y v u Q I rx ry ⟨C, f, ⟨a, dx, fs, ex, ea⟩, l1, hy, q⟩
  subst ex
  obtain rfl : v = Value.ref a := rx
  obtain ⟨mA, OA, _⟩ := ins_get I.hok ea
  obtain ⟨oa, IA, _⟩ := OA.look
  obtain ⟨m, F⟩ := I.fr
  obtain ⟨cC, h1, h2, _⟩ := fx.own.mth C _ f l1
  have kin : Ω.K.In X.base := by rw [← g.K]; exact I.ok.mod.kin
  obtain ⟨tb, ht, hn⟩ : ∃ tb, PySem.W.Looks (model X.prog X.w) s.heap (typeOf u) tb ∧ PySem.W.notFirst Ω.K (gaK Ω.K C) tb = true := by
    rcases hy with hy | ⟨D, ⟨b, dy, gs, ey, eb⟩, l2⟩
    · exact kd_type g cC I ry hy
    · subst ey
      obtain rfl : u = Value.ref b := ry
      obtain ⟨f2, l2⟩ := Option.isSome_iff_exists.mp l2
      exact own_type cC I eb l2
  have hu := g.room.units
  cases neg with
  | false =>
    refine PySem.W.cmp_ofEq (PySem.W.cmp_K g.room.units0 F kin IA ht hn h1 h2 ?_)
    refine wpAny_mono (run_own g fx l1 I (us := [.ref a, u]) (vs := [.ref a, y]) (.cons rfl (.cons ry .nil)) q) (fun v s' z => ?_) fun _ _ e => e
    obtain ⟨w, H', J, rw, b, rfl, q'⟩ := z
    obtain rfl : v = Value.bool b := rw
    exact ⟨.bl b, H', J, rfl, q'⟩
  | true =>
    refine PySem.W.cmp_ofNotEq (ne_own (by omega) F kin IA ht hn cC.ne cC.ob h1 h2 ?_)
    refine wpAny_mono (run_ownA g fx l1 (A' := X.A.in1) (g.room.mono (by omega : lv + 1 ≤ lv + 2)).in1 g.grd I.env0.in1 I (us := [.ref a, u]) (vs := [.ref a, y]) (.cons rfl (.cons ry .nil)) q) (fun v s' z => ?_) fun _ _ e => e
    obtain ⟨w, H', J, rw, b, rfl, q'⟩ := z
    obtain rfl : v = Value.bool b := rw
    exact ⟨b, rfl, .bl (!b), H', J, rfl, q'⟩
theorem op_ownR (g : Good Ω N sc lv X) (fx : Facts Ω fsp lv) : OpR X (compareOp .Eq) (rOwnR Ω.K Ω.Γ fsp) := by
  intro pins s σ H x y v u Q I rx ry ⟨C, f, ⟨b, dy, gs, ey, eb⟩, l1, ⟨T, hT, tx⟩, q⟩
  subst ey
  obtain rfl : u = Value.ref b := ry
  obtain ⟨mB, OB, _⟩ := ins_get I.hok eb
  obtain ⟨ob, IB, _⟩ := OB.look
  obtain ⟨m, F⟩ := I.fr
  obtain ⟨cC, h1, h2, _⟩ := fx.own.mth C _ f l1
  have kin : Ω.K.In X.base := by rw [← g.K]; exact I.ok.mod.kin
  have kinS : Ω.K.In s.heap := by rw [← g.K]; exact I.kIn
  rw [← g.K] at tx
  obtain ⟨P, Z, hp, _⟩ := kit_of I rx tx
  have cl : wpAny (model X.prog X.w) X.A (call (.ref (Ω.fa f)) [.ref b, v]) (PySem.W.CmpBack (EP X pins σ Q)) X.xe s := by
    refine wpAny_mono (run_own g fx l1 I (us := [.ref b, v]) (vs := [.ref b, x]) (.cons rfl (.cons rx .nil)) q) (fun v s' z => ?_) fun _ _ e => e
    obtain ⟨w, H', J, rw, b, rfl, q'⟩ := z
    obtain rfl : v = Value.bool b := rw
    exact ⟨.bl b, H', J, rfl, q'⟩
  have ho := IB.at_
  have go : ∀ (h0 : oneThing? .Eq v (.ref b) = none), (∀ P : Option Value → Shared → Prop, P none s → wpAny (model X.prog X.w) X.A (tryCompare v "__eq__" (.ref b)) P X.xe s) → wpAny (model X.prog X.w) X.A (compareOp .Eq v (.ref b)) (EP X pins σ Q) X.xe s := fun h0 dec =>
    PySem.W.cmp_ofEq (eq_right g.room.units0 F kin IB (Z.ty _ _ I.kIn hp) (cC.no T hT) h0 dec h1 h2 cl)
  clear Z hp
  have lst : ∀ a, s.TypeIs (.ref a) "list" → T = "list" → v = .ref a → wpAny (model X.prog X.w) X.A (compareOp .Eq v (.ref b)) (EP X pins σ Q) X.xe s := fun a hTy eT ev => by
    subst ev eT
    exact go (oneThing_ref _ _ _) (fun P h => dec_list hTy kinS IB (cC.no _ hT) P h)
  have tup : ∀ a, s.TypeIs (.ref a) "tuple" → T = "tuple" → v = .ref a → wpAny (model X.prog X.w) X.A (compareOp .Eq v (.ref b)) (EP X pins σ Q) X.xe s := fun a hTy eT ev => by
    subst ev eT
    exact go (oneThing_ref _ _ _) (fun P h => dec_tup hTy kinS IB (cC.no _ hT) P h)
  have dic : ∀ a, s.TypeIs (.ref a) "dict" → T = "dict" → v = .ref a → wpAny (model X.prog X.w) X.A (compareOp .Eq v (.ref b)) (EP X pins σ Q) X.xe s := fun a hTy eT ev => by
    subst ev eT
    exact go (oneThing_ref _ _ _) (fun P h => dec_dict hTy kinS IB (cC.no _ hT) P h)
  cases tx with
  | base t0 =>
    cases t0 with
    | non => cases (show v = Value.none from rx); exact go rfl (fun P h => dec_none P h)
    | bl y => cases (show v = Value.bool y from rx); exact go rfl (fun P h => dec_bool ho P h)
    | int i => obtain ⟨t, q⟩ := (show ∃ t, v = Value.int i t from rx); cases q; exact go rfl (fun P h => dec_int ho P h)
    | str y => obtain ⟨t, q⟩ := (show ∃ t, v = Value.str y t from rx); cases q; exact go rfl (fun P h => dec_str ho P h)
    | flt y => simp [blt7] at hT
    | @lst a xs ea =>
      obtain ⟨_, _, n, _, h1⟩ := (show ObjOk X.prog X.w H s.heap a (.lst xs) from I.hok a _ ea)
      exact lst a ⟨_, h1, rfl⟩ rfl rx
    | @frz a ob xs ea =>
      obtain ⟨_, _, _, n, _, h1⟩ := (show ObjOk X.prog X.w H s.heap a (.frz ob (.lst xs)) from I.hok a _ ea)
      exact lst a ⟨_, h1, rfl⟩ rfl rx
    | @tup a xs ea =>
      obtain ⟨_, _, _, o, h1, h2, _⟩ := (show ObjOk X.prog X.w H s.heap a (.tup xs) from I.hok a _ ea)
      exact tup a ⟨o, h1, h2⟩ rfl rx
    | @dK a kvs ea =>
      obtain ⟨_, _, vs, _, o, es, ep, h1, h2, _⟩ := (show ObjOk X.prog X.w H s.heap a (.dK kvs) from I.hok a _ ea)
      exact dic a ⟨o, h1, h2.1⟩ rfl rx
    | @dT a kvs ea =>
      obtain ⟨_, _, xs, _, o, es, ep, h1, h2, _⟩ := (show ObjOk X.prog X.w H s.heap a (.dT kvs) from I.hok a _ ea)
      exact dic a ⟨o, h1, h2.1⟩ rfl rx
  | byt y => simp [blt7] at hT
  | set ea => simp [blt7] at hT
  | @kList a o e c => exact lst a ⟨o, I.kIn a o e, c⟩ rfl rx
  | @kTuple a o e c => exact tup a ⟨o, I.kIn a o e, c⟩ rfl rx
  | @kDict a o e c => exact dic a ⟨o, I.kIn a o e, c⟩ rfl rx
  | @fTuple a ob xs ea =>
    obtain ⟨_, _, _, _, o, h1, h2, _⟩ := (show ObjOk X.prog X.w H s.heap a (.frz ob (.tup xs)) from I.hok a _ ea)
    exact tup a ⟨o, h1, h2⟩ rfl rx
  | @fDict a ob kvs ea =>
    obtain ⟨_, _, _, vs, _, o, es, ep, h1, h2, _⟩ := (show ObjOk X.prog X.w H s.heap a (.frz ob (.dK kvs)) from I.hok a _ ea)
    exact dic a ⟨o, h1, h2.1⟩ rfl rx
/-- repr(x), str(x) of own objects -/
theorem cr_own_repr (g : Good Ω N sc lv X) (fx : Facts Ω fsp lv) : CallR X (.builtin "repr") (rOwn1 Ω.K Ω.Γ fsp "__repr__") := by
  intro pins s σ H xs us Q I r ⟨x, C, f, exs, ⟨a, dx, fs, ex, ea⟩, l1, q⟩
  subst exs ex
  cases r with
  | cons ra rr =>
    cases rr
    rename_i u
    obtain rfl : u = Value.ref a := ra
    obtain ⟨mA, OA, _⟩ := ins_get I.hok ea
    obtain ⟨oa, IA, _⟩ := OA.look
    obtain ⟨m, F⟩ := I.fr
    obtain ⟨cC, h1, h2, _⟩ := fx.own.mth C _ f l1
    have kin : Ω.K.In X.base := by rw [← g.K]; exact I.ok.mod.kin
    have hu := g.room.units
    refine PySem.W.repr_K (show X.A.units + 1 < cLine by omega) F kin IA h1 h2 ?_
    refine wpAny_mono (run_ownA g fx l1 (A' := X.A.in1) (g.room.mono (by omega : lv + 1 ≤ lv + 2)).in1 g.grd I.env0.in1 I (us := [.ref a]) (vs := [.ref a]) (.cons rfl .nil) q) (fun v s' z => ?_) fun _ _ e => e
    obtain ⟨w, H', J, rw, x, rfl, q'⟩ := z
    obtain ⟨t, rfl⟩ := rw
    exact ⟨.str x, H', J, ⟨t, rfl⟩, q'⟩
theorem cr_own_str (g : Good Ω N sc lv X) (fx : Facts Ω fsp lv) : CallR X (.type "str") (rOwn1 Ω.K Ω.Γ fsp "__str__") := by
  intro pins s σ H xs us Q I r ⟨x, C, f, exs, ⟨a, dx, fs, ex, ea⟩, l1, q⟩
  subst exs ex
  cases r with
  | cons ra rr =>
    cases rr
    rename_i u
    obtain rfl : u = Value.ref a := ra
    obtain ⟨mA, OA, _⟩ := ins_get I.hok ea
    obtain ⟨oa, IA, _⟩ := OA.look
    obtain ⟨m, F⟩ := I.fr
    obtain ⟨cC, h1, h2, _⟩ := fx.own.mth C _ f l1
    have kin : Ω.K.In X.base := by rw [← g.K]; exact I.ok.mod.kin
    have hu := g.room.units
    refine str_own (by omega) F kin IA h1 h2 ?_
    refine wpAny_mono (run_ownA g fx l1 (A' := X.A.in1.in1) g.room.in1.in1 g.grd I.env0.in1.in1 I (us := [.ref a]) (vs := [.ref a]) (.cons rfl .nil) q) (fun v s' z => ?_) fun _ _ e => e
    obtain ⟨w, H', J, rw, x, rfl, q'⟩ := z
    obtain ⟨t, rfl⟩ := rw
    exact ⟨.str x, H', J, ⟨t, rfl⟩, q'⟩
end
end Mn

-- Ob3
set_option Elab.async false
set_option linter.all false
set_option maxRecDepth 100000
set_option maxHeartbeats 2000000
set_option autoImplicit false
namespace Mn
open PySem PySem.Spec L2 PyProof.Rows
section
variable {Ω : Wd} {N : List Str} {sc : Sk} {lv : Nat} {X : Cx} {fsp : Nat → Sp}
theorem pe_att {e : Expr} {ta : TE} {f fld : Str} {pos : Pos} (g : Good Ω N sc lv X) (fx : Facts Ω fsp lv) (he : PE X e ta) (hab : attributeBase e f X.env (eval e X.env) = eval e X.env) : PE X (.Attribute e f pos) (tAtt Ω.K Ω.Γ f fld ta) := by
  refine ⟨fun pins s σ H Q I h => ?_⟩
  refine attr_of hab (thn (he.run pins s σ H _ I h) fun u s1 ⟨x, H1, I1, rx, a, C, dx, fs, v, ex, ea, hp, hl, q⟩ => ?_)
  subst ex
  obtain rfl : u = Value.ref a := rx
  obtain ⟨cl, p, gg, fd, hP, F, hB⟩ := fx.own.prp C f fld hp
  rw [← g.P, ← g.w, ← g.K, ← g.mg, ← g.base] at F
  rw [← g.K] at cl hP hB ea
  exact getprop_ok (E := C8.E0) I1 ea cl hP F (g.room.mono (by omega)) hB .nil C8.pass0 ⟨a, dx, fs, v, rfl, by rw [g.K] at ea ⊢; exact ea, hl, q⟩
theorem pe_ocl {c : Nat} {p : Pos} (g : Good Ω N sc lv X) (fx : Facts Ω fsp lv) (hc : c < Ω.Γ.ocl.length) (hg : isGl sc.s (gname Ω.Γ.ocl c) = true) : PE X (.Name (gname Ω.Γ.ocl c) p) (tC (.ref (gaK Ω.K (gname Ω.Γ.ocl c)))) := by
  obtain ⟨gl, db⟩ := g.gl hg
  exact pe_glob gl (by rw [g.mg]; exact fx.own.cls c hc) rfl db
theorem op_binO (g : Good Ω N sc lv X) (fx : Facts Ω fsp lv) (op : Operator) : OpR X (binaryOp op) (rBinO Ω.K Ω.Γ fsp op) := by
  intro pins s σ H x y v u Q I rx ry h
  rcases h with h | ⟨hop, h⟩
  · exact op_bin op pins s σ H x y v u Q I rx ry h
  · exact op_ownB g fx op hop pins s σ H x y v u Q I rx ry h
theorem ix_dK (hu : X.A.units + 1 < cLine) : IxR X (fun x y H Q => ∃ a v, x = .ref a ∧ DGet H a y (some v) ∧ Q v H) := by
  intro value slice pins s σ H x y v u Q I rx ry ⟨a, z, ex, dg, q⟩ hs
  subst ex
  obtain rfl : v = Value.ref a := rx
  have hT := dict_typeIs I dg
  unfold subscriptTail
  refine wpAny_bind ?_
  rw [getitemInPython_of_ne (Shared.TypeIs.not_modules hT)]
  refine wpAny_bind (wpAny_specialOf hT F.slot_dict_getitem.lookup (wpAny_pure (wpAny_bind ?_)))
  show wpAny _ _ (subscripted slice false _ u) _ _ _
  rw [hs]
  exact wpAny_operating (d_getItem hu I dg ry fun w' s3 I3 rw' => wpAny_bind (wpAny_letTemporaryGo (wpAny_pure ⟨z, H, I3, rw', q⟩)))
theorem ix_A (g : Good Ω N sc lv X) : IxR X (rIxA Ω.K) := by
  intro value slice pins s σ H x y v u Q I rx ry h hs
  rcases h with h | h
  · rw [← g.K] at h
    exact ix_seq value slice pins s σ H x y v u Q I rx ry h hs
  · have hu := g.room.units
    exact ix_dK (by omega) value slice pins s σ H x y v u Q I rx ry h hs
theorem op_cmpO (g : Good Ω N sc lv X) (fx : Facts Ω fsp lv) (op : CmpOp) : OpR X (compareOp op) (rCmpO Ω.K Ω.Γ fsp op) := by
  intro pins s σ H x y v u Q I rx ry h
  rcases h with h | ⟨rfl, h | h⟩ | ⟨rfl, h⟩
  · exact op_cmp g op pins s σ H x y v u Q I rx ry h
  · exact op_ownL g fx false pins s σ H x y v u Q I rx ry h
  · exact op_ownR g fx pins s σ H x y v u Q I rx ry h
  · exact op_ownL g fx true pins s σ H x y v u Q I rx ry h
end
end Mn

-- Mn4b
set_option Elab.async false
set_option linter.all false
set_option maxRecDepth 100000
set_option autoImplicit false
namespace Mn
open PySem PySem.Spec L2
/-! ### repr -/
section
variable {X : Cx} {pins : List (Addr × Obj)} {σ : L2.St} {G H : Hp} {s : Shared}
/-- nothing is being shown; there is room -/
def A0 (X : Cx) : Prop := X.A.guards = some [] ∧ Room 0 X.A
/-- the modules' table is none of the program's things -/
def SysOk (X : Cx) : Prop := ∃ o, X.base.get? sysModules = some o ∧ o.cls ≠ .type "list"
theorem sys_ne_list (I : Inv X pins σ H s) (hs : SysOk X) {a : Addr} {its : Array Value} (h : PlainL s.heap a its) : a ≠ sysModules := fun z => by
  obtain ⟨o, e1, e2⟩ := hs
  obtain ⟨o', n, e3, e4, _⟩ := h
  have := I.bk _ _ e1
  rw [z, this] at e3
  cases e3
  exact e2 e4
theorem sys_ne_tracked (I : Inv X pins σ H s) (hs : SysOk X) {a : Addr} {u : HO} (h : H a = some u) : a ≠ sysModules := fun z => by
  obtain ⟨o, e1, e2⟩ := hs
  have := (I.bs _ _ e1).2
  rw [z, this] at h
  cases h
mutual
theorem Den.reads (I : Inv X pins σ H s) (hs : SysOk X) (sG : Same G H) : ∀ {v : V} {d : D}, Den X.K G v d → d.shOk = true → ∀ u, RelV v u → ∃ as, Reads s.heap u d.py as ∧ sysModules ∉ as
  | _, _, .non, _, u, r => by
    obtain rfl : u = Value.none := r
    simp only [D.py]; exact ⟨_, .none, by simp⟩
  | _, _, .bl b, _, u, r => by
    obtain rfl : u = Value.bool b := r
    simp only [D.py]; exact ⟨_, .bool b, by simp⟩
  | _, _, .int i, _, u, r => by
    obtain ⟨t, rfl⟩ : ∃ t, u = Value.int i t := r
    simp only [D.py]; exact ⟨_, .int i t, by simp⟩
  | _, _, .str x, _, u, r => by
    obtain ⟨t, rfl⟩ : ∃ t, u = Value.str x t := r
    simp only [D.py]; exact ⟨_, .str x t, by simp⟩
  | _, _, .lst (a := a) h t, e, u, r => by
    obtain rfl : u = Value.ref a := r
    obtain ⟨its, rv, hp, _⟩ := I.list (a := a) (.inl (.inl (sG _ _ h)))
    obtain ⟨as, q1, q2⟩ := DenL.reads I hs sG t (by simpa [D.shOk] using e) its rv
    have ne := sys_ne_list I hs hp
    obtain ⟨o, n, e1, e2, _, e3⟩ := hp
    simp only [D.py]
    exact ⟨_, .list e1 e2 e3 q1, by simp only [List.mem_cons, not_or]; exact ⟨Ne.symm ne, q2⟩⟩
  | _, _, .rol (a := a) h t, e, u, r => by
    obtain rfl : u = Value.ref a := r
    obtain ⟨its, rv, hp, _⟩ := I.list (a := a) (sqL_mono sG h)
    obtain ⟨as, q1, q2⟩ := DenL.reads I hs sG t (by simpa [D.shOk] using e) its rv
    have ne := sys_ne_list I hs hp
    obtain ⟨o, n, e1, e2, _, e3⟩ := hp
    simp only [D.py]
    exact ⟨_, .list e1 e2 e3 q1, by simp only [List.mem_cons, not_or]; exact ⟨Ne.symm ne, q2⟩⟩
  | _, _, .tup (a := a) h t, e, u, r => by
    obtain rfl : u = Value.ref a := r
    obtain ⟨its, rv, hp, _⟩ := I.tuple (a := a) (sqT_mono sG h)
    obtain ⟨as, q1, q2⟩ := DenL.reads I hs sG t (by simpa [D.shOk] using e) its rv
    obtain ⟨o, e1, e2, n, e3⟩ := hp
    simp only [D.py]
    exact ⟨_, .tuple e1 e2 e3 q1, q2⟩
  | _, _, .dct (a := a) h t, e, u, r => by
    obtain rfl : u = Value.ref a := r
    have ne := sys_ne_tracked I hs (sG _ _ h)
    obtain ⟨_, _, ws, kv, o, es, ep, ho, ex, hd, _, pr, _⟩ := I.hok a _ (sG _ _ h)
    obtain ⟨as, bs, q1, q2, q3, q4⟩ := DenK.reads I hs sG t (by simpa [D.shOk] using e) es.toList ws kv pr
    simp only [D.py]
    refine ⟨_, .dict ho ex.1 hd q1 q2, ?_⟩
    simp only [List.cons_append, List.mem_cons, List.mem_append, not_or]
    exact ⟨Ne.symm ne, q3, q4⟩
  | _, _, .obj h _ t, e, u, r => by simp [D.shOk] at e
theorem DenL.reads (I : Inv X pins σ H s) (hs : SysOk X) (sG : Same G H) : ∀ {vs : List V} {ds : List D}, DenL X.K G vs ds → shOks ds = true → ∀ us, Vals vs us → ∃ as, ReadsAll s.heap us (pys ds) as ∧ sysModules ∉ as
  | _, _, .nil, _, us, r => by
    cases r
    simp only [pys]; exact ⟨_, .nil, by simp⟩
  | _, _, .cons h t, e, us, r => by
    cases r with
    | cons r1 r2 =>
      simp only [shOks, Bool.and_eq_true] at e
      obtain ⟨as, q1, q2⟩ := Den.reads I hs sG h e.1 _ r1
      obtain ⟨bs, q3, q4⟩ := DenL.reads I hs sG t e.2 _ r2
      simp only [pys]
      exact ⟨_, .cons q1 q3, by simp only [List.mem_append, not_or]; exact ⟨q2, q4⟩⟩
theorem DenK.reads (I : Inv X pins σ H s) (hs : SysOk X) (sG : Same G H) : ∀ {vs : List (Key × V)} {ds : List (Key × D)}, DenK X.K G vs ds → shOkk ds = true → ∀ (l : List DictEntry) (ws : List (Key × Value)), KV vs ws → Pairs (mixKind X.prog X.w) l ws →
    ∃ as bs, ReadsAll s.heap (l.map (·.key)) ((pyk ds).map (·.1)) as ∧ ReadsAll s.heap (l.map (·.val)) ((pyk ds).map (·.2)) bs ∧ sysModules ∉ as ∧ sysModules ∉ bs
  | _, _, .nil, _, l, ws, kv, pr => by
    cases kv
    cases pr
    simp only [pyk, List.map_nil]
    exact ⟨_, _, .nil, .nil, by simp, by simp⟩
  | _, _, .cons (k := k) (v := v) (d := d) h t, e, l, ws, kv, pr => by
    cases kv with
    | cons k1 k2 =>
      cases pr with
      | @cons en _ _ _ p1 p2 p3 =>
        obtain ⟨e1, e2⟩ := k1
        simp only [shOkk, Bool.and_eq_true] at e
        obtain ⟨as, q1, q2⟩ := Den.reads I hs sG h e.1 _ e2
        obtain ⟨cs, bs, q3, q4, q5, q6⟩ := DenK.reads I hs sG t e.2 _ _ k2 p3
        rw [← p2] at q1
        rw [← e1] at p1
        have key : ∃ as, Reads s.heap en.key (match k with | .inl i => PyData.int i | .inr x => PyData.str x) as ∧ as = [] := by
          rcases keyIs_shape (show keyIs k _ = true from p1) with ⟨i, t, rfl, e3⟩ | ⟨x, t, rfl, e3⟩
          · rw [e3]
            exact ⟨_, .int i t, rfl⟩
          · rw [e3]
            exact ⟨_, .str x t, rfl⟩
        obtain ⟨ks, r1, rfl⟩ := key
        refine ⟨[] ++ cs, as ++ bs, ?_, ?_, by simpa using q5, by simp only [List.mem_append, not_or]; exact ⟨q2, q6⟩⟩
        · cases k <;> (simp only [pyk, List.map_cons]; exact .cons r1 q3)
        · cases k <;> (simp only [pyk, List.map_cons]; exact .cons q1 q4)
end
theorem cr_show (hr : A0 X) (hs : SysOk X) : CallR X (.builtin "repr") (rShow X.K) := by
  intro pins s σ H vs us Q I r h
  obtain ⟨v, d, G, rfl, sG, see, ok, sh, len, dep, q⟩ := h
  cases r with
  | cons r1 r2 =>
    cases r2
    rename_i u
    have hz : d.py.shown.length ≤ sizeLine := Nat.le_trans len (by decide)
    have rd : ∃ as, Reads s.heap u d.py as ∧ sysModules ∉ as := by
      rcases see with see | ⟨a, ws, xs, rfl, rfl, h1, h2⟩
      · exact see.reads I hs sG ok u r1
      · obtain rfl : u = Value.ref a := r1
        obtain ⟨its, rv, hp, _⟩ := I.list (a := a) (.inl (.inl h1))
        obtain ⟨as, q1, q2⟩ := DenL.reads I hs sG h2 (by simpa [D.shOk] using ok) its rv
        have ne := sys_ne_list I hs hp
        obtain ⟨o, n, e1, e2, _, e3⟩ := hp
        simp only [D.py]
        exact ⟨_, .list e1 e2 e3 q1, by simp only [List.mem_cons, not_or]; exact ⟨Ne.symm ne, q2⟩⟩
    obtain ⟨as, rd, ns⟩ := rd
    have fin : ∀ (h' : Heap) (t : Tok) (tk : Nat), (∀ b o, s.heap.get? b = some o → h'.get? b = some o) → EP X pins σ Q (.str d.py.shown t) { s with heap := h', toks := tk } := fun h' t tk k => ⟨.str d.py.shown, H, I.kept (t' := tk) k, ⟨t, rfl⟩, q⟩
    have same : ∀ {x : Str} {t : Tok} {tk : Nat}, x = d.py.shown → EP X pins σ Q (.str x t) { s with toks := tk } := fun {x t tk} e => by
      rw [e]
      exact fin s.heap t tk fun _ _ z => z
    generalize hd : d.py = pd at rd sh hz dep fin same
    have hu : X.A.units + (pd.depth + 1) < cLine := by
      have := hr.2.un
      omega
    cases rd with
    | none => exact PySem.P.repr_of_none (same rfl)
    | bool b => exact PySem.P.repr_of_bool (same (by simp only [PyData.shown]))
    | int i t => exact PySem.P.repr_of_int (by simpa [PyData.showable] using sh) (same (by simp only [PyData.shown]))
    | str x t => exact PySem.P.repr_of_str (same (by simp only [PyData.shown])) (by simpa only [PyData.shown] using hz)
    | list h1 h2 h3 h4 => exact repr_of_reads' (.list h1 h2 h3 h4) sh (fun _ => ns) hr.1 hu (fun _ _ z => z) (fun h' u tk k => fin h' u tk k) hz
    | tuple h1 h2 h3 h4 => exact repr_of_reads' (.tuple h1 h2 h3 h4) sh (fun _ => ns) hr.1 hu (fun _ _ z => z) (fun h' u tk k => fin h' u tk k) hz
    | dict h1 h2 h3 h4 h5 => exact repr_of_reads' (.dict h1 h2 h3 h4 h5) sh (fun _ => ns) hr.1 hu (fun _ _ z => z) (fun h' u tk k => fin h' u tk k) hz
end
end Mn

-- Mn4d
set_option Elab.async false
set_option linter.all false
set_option maxRecDepth 100000
set_option maxHeartbeats 3200000
set_option autoImplicit false
namespace Mn
open PySem PySem.Spec L2 PyProof.Rows
/-! ### set(xs) of a list of ints -/
section
variable {P : Program} {w : World} {A : Around} {E : Value → Shared → Prop} {s : Shared}
/-- a set as it is made -/
abbrev setE (w : World) : Obj := { cls := .type "set", dict := none, data := .set #[] 0 (.fresh 0 0 (!w.params.followText "set-order")) }
/-- what is left of the list's walk into the set -/
theorem fill_list {l : Addr} {items : Array Value} {ns : List Int} {Q : Unit → Value → Shared → Prop} (hh : A.handled = none) (hl : s.heap.IsList l items) (hit : IntsAre items.toList ns) (hb : ns.length + 1 < scanBound) {R : Result → Shared → Prop}
    (k : ∀ (h' : Heap) (tk c : Nat), SetR w h' s.heap.objs.size (fun j => decide (j ∈ ns)) c → c ≤ ns.length → (∀ b o, s.heap.get? b = some o → h'.get? b = some o) → R (.ok (.ret .none)) { s with heap := h', toks := tk }) :
    codeAny (model P w) A (.builtin "set.update.loop" ⟨[.ref s.heap.objs.size, .ref (s.heap.push (setE w)).objs.size], []⟩) R { s with heap := (s.heap.push (setE w)).push { cls := .type "list_iterator", data := .fields #[.ref l, .int 0 0] } } := by
  have hisz : items.size = ns.length := by
    have q := IntsAre.length hit
    rw [Array.length_toList] at q
    exact q
  have lS : l < s.heap.objs.size := by
    obtain ⟨o, e, _⟩ := hl
    exact Heap.lt_size e
  have hl1 : (s.heap.push (setE w)).IsList l items := hl.push _
  have sz : (s.heap.push (setE w)).objs.size = s.heap.objs.size + 1 := Heap.size_push ..
  have neI : l ≠ (s.heap.push (setE w)).objs.size := by rw [sz]; exact Nat.ne_of_lt (Nat.lt_succ_of_lt lS)
  have out : s.heap.objs.size ∉ [(s.heap.push (setE w)).objs.size, l] := by
    rw [sz]
    simp only [List.mem_cons, List.mem_singleton, List.not_mem_nil, or_false, not_or]
    exact ⟨Nat.ne_of_lt (Nat.lt_succ_self _), Nat.ne_of_gt lS⟩
  have val : ∀ (i : Nat) (v : Value), items[i]? = some v → ∃ k t, ns[i]? = some k ∧ v = .int k t := fun i v hv => by
    have hi : i < ns.length := by rw [← hisz]; exact (Array.getElem?_eq_some_iff.mp hv).1
    obtain ⟨t, e⟩ := IntsAre.int_at hit i v (by rw [Array.getElem?_toList]; exact hv)
    refine ⟨ns[i], t, List.getElem?_eq_getElem hi, ?_⟩
    rw [e, List.getD_eq_getElem?_getD, List.getElem?_eq_getElem hi] <;> rfl
  have hh1 : A.in1.handled = none := by simp [hh]
  refine set_update_ints ((Walks.list hh1 _ l neI items).toS) s.heap.objs.size out ns hisz hb val (items.size - 0) 0 _ (by omega) (Nat.zero_le _) ⟨⟨_, Heap.get?_push_size _ rfl, rfl, rfl⟩, (hl1.push _)⟩
    ⟨0, Nat.le_refl 0, setR_new_at (Heap.get?_push_of_some _ (Heap.get?_push_size _ rfl))⟩ fun s' c hm hc hS => ?_
  obtain ⟨h', g2, d', tk', os'⟩ := s'
  have eg : g2 = s.gens := hm.gens
  have ed : d' = s.drawn := hm.drawn
  have eo : os' = s.os := hm.os
  subst eg; subst ed; subst eo
  rw [hisz] at hc
  refine k h' tk' c hS hc fun b o e => ?_
  have lb := Heap.lt_size e
  refine hm.heap b o ?_ (Heap.get?_push_of_some _ (Heap.get?_push_of_some _ e))
  rw [sz]
  simp only [List.mem_cons, List.mem_singleton, List.not_mem_nil, or_false, not_or]
  exact ⟨Nat.ne_of_lt lb, Nat.ne_of_lt (Nat.lt_succ_of_lt lb)⟩
theorem call_setI {l : Addr} {items : Array Value} {ns : List Int} {Q : Value → Shared → Prop} (hh : A.handled = none) (hl : s.heap.IsList l items) (hit : IntsAre items.toList ns) (hb : ns.length + 1 < scanBound)
    (h : ∀ (h' : Heap) (tk c : Nat), SetR w h' s.heap.objs.size (fun j => decide (j ∈ ns)) c → c ≤ ns.length → (∀ b o, s.heap.get? b = some o → h'.get? b = some o) → Q (.ref s.heap.objs.size) { s with heap := h', toks := tk }) :
    wpAny (model P w) A (call (.type "set") [.ref l]) Q E s := by
  obtain ⟨c, tl, hmro⟩ := F.called_set.mro
  have hmade := F.called_set.made
  have hsub := F.called_set.sub
  refine wpAny_call (codeAny_of_tree ?_)
  show wpAny _ _ (callAny (.type "set") _) _ _ _
  refine wpAny_pure ⟨Code.quiet_builtin _ (by decide +kernel), codeAny_builtin F.entry_type_call ?_⟩
  rw [Around.under_plain (weight_type_call_type "set" [.ref l] []) rfl]
  have n1 := F.called_set.notType
  have n2 := F.called_set.canCreate
  have n3 := F.typeCall_set_1 (.ref l)
  repeat (any_goals (first | assumption | wp_step))
  refine codeAny_mono (code_set_led1 (.ref l) (E := E) (Q₁ := fun obj s₁ => obj = .ref s.heap.objs.size ∧ s₁ = { s with heap := s.heap.push (setE w) }) ⟨rfl, rfl⟩) fun r s₁ hr => ?_
  cases r with
  | error e => exact hr
  | ok fl =>
    cases fl with
    | ret obj =>
      obtain ⟨rfl, rfl⟩ := hr
      have hS : (s.heap.push (setE w)).get? s.heap.objs.size = some (setE w) := Heap.get?_push_size _ rfl
      have hT : Shared.TypeIs { s with heap := s.heap.push (setE w) } (.ref s.heap.objs.size) "set" := ⟨_, hS, rfl⟩
      have hli := F.called_set.init.lookup
      have hbi := F.called_set.init.bind (.ref s.heap.objs.size)
      repeat (any_goals (first | assumption | wp_step))
      refine codeAny_mono (codeAny_call_builtin (R := wants (fun r s₂ => r = .none ∧ ∃ h' tk c, s₂ = { s with heap := h', toks := tk } ∧ SetR w h' s.heap.objs.size (fun j => decide (j ∈ ns)) c ∧ c ≤ ns.length ∧
          (∀ b o, s.heap.get? b = some o → h'.get? b = some o)) E) F.called_set.init.plain F.entry_set_init (check_set_init_1 hT ?_)) fun r₂ s₂ hr₂ => ?_
      · have hl0 := hl
        obtain ⟨ol, hol, hcl, nl, hdl⟩ := hl
        obtain ⟨ocls, odict, odata, oslots⟩ := ol
        simp only at hcl hdl
        subst hcl; subst hdl
        have hol' : (s.heap.push (setE w)).get? l = some { cls := .type "list", dict := odict, data := .seq items nl, slots := oslots } := Heap.get?_push_of_some _ hol
        have hsls := F.sub_list_set
        have hslf := F.sub_list_frozenset
        have hne : (Value.type "list" == Value.type "dict") = false := by decide
        have hl1 : (s.heap.push (setE w)).IsList l items := ⟨_, hol', rfl, nl, rfl⟩
        unfold Builtin.«set.__init__» noKeywords Builtin.Frozenset.updateFrom
        generalize hPI : pyIter = PI
        wp_walk
        subst hPI
        refine wpAny_pyIter_list hl1 ?_
        refine wpAny_bind (wpAny_runValue ?_)
        refine fill_list (A := A.in1.in1) (Q := fun _ _ _ => True) (by simp [hh]) hl0 hit hb fun h' tk c hS hc hk => ?_
        show wpAny _ _ _ _ _ _
        refine wpAny_pure ?_
        show wpAny _ _ (ret Value.none) _ _ _
        exact wpAny_pure ⟨rfl, h', tk, c, rfl, hS, hc, hk⟩
      · cases r₂ with
        | error e => exact hr₂
        | ok fl =>
          cases fl with
          | ret u =>
            obtain ⟨rfl, h', tk, c, rfl, hS, hc, hk⟩ := hr₂
            repeat (any_goals (first | assumption | wp_step))
            all_goals exact h h' tk c hS hc hk
          | next => exact hr₂
          | brk => exact hr₂
          | cont => exact hr₂
    | next => exact hr
    | brk => exact hr
    | cont => exact hr
end
theorem cr_setI {X : Cx} (hc : X.calm = true) : CallR X (.type "set") (rSetOfI X.w X.K) := by
  intro pins s σ H vs us Q I r h
  obtain ⟨l, ns, rfl, hs, hz, q⟩ := h
  obtain ⟨its, rv, hl, _⟩ := I.list hs
  rw [Vals.ref1 r]
  have hb : ns.length + 1 < scanBound := by
    have : scanBound = 4096 := rfl
    omega
  refine call_setI (I.ok.hd hc) hl.isList (by simpa using rv.ints) hb fun h' tk c hS hc k => ?_
  exact ⟨.ref _, upd H s.heap.objs.size (SetO X.w s.heap.objs.size (fun j => decide (j ∈ ns)) c), I.laid (t' := tk) k (Nat.le_refl _) (setO_new hS), rfl, q _ _ (I.hok.fresh (Nat.le_refl _)) hc⟩
end Mn

-- Mn4e
set_option Elab.async false
set_option linter.all false
set_option maxRecDepth 100000
set_option maxHeartbeats 2000000
set_option autoImplicit false
namespace Mn
open PySem PySem.Spec L2 LamX PyProof.Rows
/-! ### a lambda handed to a def, nothing being shown -/
section
variable {X : Cx} {pins : List (Addr × Obj)} {σ : L2.St} {H HZ : Hp} {s s1 : Shared}
/-- all that is tracked stays tracked -/
def Lives (H H' : Hp) : Prop := ∀ b o, H b = some o → ∃ o', H' b = some o'
/-- the lambda is made: its code object is new, or it stood in the table -/
theorem lam_new {T : List (Addr × Str)} {c P : Addr} {ar : Arguments} {body : Expr} {sc : Scope} {pos : Pos} {E : Value → Shared → Prop} {Q : Value → Shared → Prop} (I : L2.Inv X pins σ H s) (TB : TabB X.base X.mg c P) (hcode : X.env.code = .ref c)
    (hm : (P, X.env.qual ++ "<lambda>") ∈ T) (hu : ∀ p ∈ T, p.1 = P → p.2 = X.env.qual ++ "<lambda>") (hT : Tabs T H) (hdef : defaultsOf ar X.env = ([], [])) (hfree : ∀ y ∈ sc.names, y.2 = .free → ∃ c, X.env.cells.lookup y.1 = some c)
    (h : ∀ (f c' : Addr) (pm ctv : Value) (H1 : Hp) (s' : Shared), L2.Inv X pins σ H1 s' → ExtN H H1 → Tabs T H1 → Lives H H1 →
      s'.heap.get? f = some (PySem.W.kla_obj "<lambda>" (X.env.qual ++ "<lambda>") ar body sc (cloFrom X.env.cells sc.names []) pm c' ctv) → H1 f = none → f ∉ frs X.stack → H1 c' = some (CodeO c' (X.env.qual ++ "<lambda>")) → Q (.ref f) s') :
    wpAny (model X.prog X.w) X.A (eval (.Lambda ar body sc pos) X.env) Q E s := by
  obtain ⟨ps, hP, ht, ha⟩ := hT _ hm
  refine PySem.W.kla_eval hdef ?_
  have bP : s.heap.BuiltinsAt X.mg P := TB.bm.keeps I.bk
  have oP : s.heap.get? P = some { cls := .none, data := .fields ps } := I.hok P _ hP
  have out : ∀ f, s.heap.objs.size ≤ f → f ∉ frs X.stack := fun f hf z => by
    rcases List.mem_cons.mp (I.stkSub _ z) with e | e
    · have lt := I.lt
      rw [← e] at lt
      exact Nat.lt_irrefl _ (Nat.lt_of_lt_of_le lt hf)
    · exact I.nofs hf e
  cases hc : codeAmong pos ps.toList with
  | none =>
    refine PySem.W.kla_makeFunction (mg := X.mg) (c := c) (P := P) (ps := ps) (closure_ok hfree) I.ok.glob (I.mod.glob.keeps I.bk) hcode (TB.code.keeps I.bk) oP ht hc TB.gP bP fun c' ctv h' tk hx ge lt rc htb => ?_
    obtain ⟨c2, oc, vs, t, e2, hoc, hd, hv⟩ := rc
    cases e2
    have sz : s.heap.objs.size ≤ h'.objs.size := Nat.le_trans ge (Nat.le_of_lt lt)
    have nC : H c' = none := I.hok.fresh ge
    have I1 := inv_table (t' := tk) (more := #[rawInt pos.line, rawInt pos.col, .ref c']) (h' := h'.push (PySem.W.kla_obj "<lambda>" (X.env.qual ++ "<lambda>") ar body sc (cloFrom X.env.cells sc.names []) ((X.mg "__name__").getD .none) c' ctv)) I hP
      (fun b o hb e => Heap.get?_push_of_some _ (hx b o hb e)) (Heap.get?_push_of_some _ htb) ge ⟨oc, vs, t, Heap.get?_push_of_some _ hoc, hd, hv⟩
    generalize eH : upd (upd H P (.tbl (ps ++ #[rawInt pos.line, rawInt pos.col, .ref c']))) c' (CodeO c' (X.env.qual ++ "<lambda>")) = H1 at I1
    have hE : ExtN H H1 := fun b o e n => by
      rw [← eH, upd_ne (ne_of_none e nC), upd_ne (fun z => n ps (Option.some.inj (e.symm.trans (by rw [z]; exact hP))))]
      exact e
    have hL : Lives H H1 := fun b o e => by
      by_cases hb : b = P
      · rw [← eH, hb, upd_ne (ne_of_none hP nC), upd_same]
        exact ⟨_, rfl⟩
      · rw [← eH, upd_ne (ne_of_none e nC), upd_ne hb]
        exact ⟨o, e⟩
    have eL : (ps ++ #[rawInt pos.line, rawInt pos.col, .ref c']).toList = ps.toList ++ [rawInt pos.line, rawInt pos.col, .ref c'] := by simp
    refine h h'.objs.size c' ((X.mg "__name__").getD .none) ctv H1 _ I1 hE (fun p hp => ?_) hL (Heap.get?_push_size _ rfl) ?_ (out _ sz) (by rw [← eH]; exact upd_same)
    · by_cases hb : p.1 = P
      · rw [hu p hp hb, hb]
        refine ⟨_, by rw [← eH, upd_ne (ne_of_none hP nC), upd_same], by rw [eL]; exact PySem.TriplesOk_snoc _ _ _ _ ht, fun p' cv hcv => ?_⟩
        rw [eL] at hcv
        rcases among_app _ ht hcv with z | z
        · obtain ⟨c0, e1, e2⟩ := ha p' cv z
          exact ⟨c0, e1, hE _ _ e2 codeO_ne⟩
        · exact ⟨c', z, by rw [← eH]; exact upd_same⟩
      · obtain ⟨ps', a1, a2, a3⟩ := hT p hp
        refine ⟨ps', by rw [← eH, upd_ne (ne_of_none a1 nC), upd_ne hb]; exact a1, a2, fun p' cv hcv => ?_⟩
        obtain ⟨c0, e1, e2⟩ := a3 p' cv hcv
        exact ⟨c0, e1, hE _ _ e2 codeO_ne⟩
    · have n2 : h'.objs.size ≠ P := Nat.ne_of_gt (Nat.lt_of_lt_of_le (Heap.lt_size oP) sz)
      rw [← eH, upd_ne (Nat.ne_of_gt lt), upd_ne n2]
      exact I.hok.fresh sz
  | some cv =>
    obtain ⟨c', e, hco⟩ := ha pos cv hc
    subst e
    refine PySem.W.kla_makeFunctionHit (mg := X.mg) (c := c) (P := P) (ps := ps) (closure_ok hfree) I.ok.glob (I.mod.glob.keeps I.bk) hcode (TB.code.keeps I.bk) oP ht hc bP fun ctv h' tk hx sz => ?_
    have I1 : L2.Inv X pins σ H { s with heap := h'.push (PySem.W.kla_obj "<lambda>" (X.env.qual ++ "<lambda>") ar body sc (cloFrom X.env.cells sc.names []) ((X.mg "__name__").getD .none) c' ctv), toks := tk } := I.kept fun b o e => Heap.get?_push_of_some _ (hx b o e)
    exact h h'.objs.size c' ((X.mg "__name__").getD .none) ctv H _ I1 (ExtN.refl H) hT (fun b o e => ⟨o, e⟩) (Heap.get?_push_size _ rfl) (I.hok.fresh sz) (out _ sz) hco
/-- what is read of x(lambda: ..) -/
def tLamG (T : List (Addr × Str)) (TT : (XK → Hp → VK → Prop) → Hp → VK → Prop) (t : XK → TE) : TE := fun σ H Q => Tabs T H ∧ ∀ H1, ExtN H H1 → Tabs T H1 → Lives H H1 → TT (fun E H' Q' => t E σ H' Q') H1 Q
theorem pe_actG {CXg : CXT} {Eg : XK} {Ng : List Str} {qg : Str} {sg : Scope} {g f c' : Addr} {cdg pm ctv : Value} {ar : Arguments} {body : Expr} {sc : Scope} {k i : Nat} {a : Str} {pn : List (Addr × Obj)} {xe : Value → Shared → Prop} {W : WX} {E : XK} {tb : TE} {p1 p2 : Pos}
    (I : L2.Inv X pins σ H s) (L : LamS X.env.scope sc) (hf : s.heap.get? f = some (PySem.W.kla_obj "<lambda>" (X.env.qual ++ "<lambda>") ar body sc (cloFrom X.env.cells sc.names []) pm c' ctv)) (nf : H f = none) (nfr : f ∉ frs X.stack)
    (hbind : bindArgs (PySem.W.kla_fn "<lambda>" (X.env.qual ++ "<lambda>") ar body sc (cloFrom X.env.cells sc.names []) pm (.ref c') ctv) ⟨[], []⟩ = pure [])
    (tk : Takes ((cxOf CXg X.prog X.w X.K X.mg X.base Ng qg sg g cdg X.A X.stack s H Eg).tr pn xe) W) (hW : ∀ cls d (σ' : L2.St) H', σ'.length = Ng.length → E cls d H' → W cls d σ' H') (hr : Room (k + 1) (X.A.deeper (envOfC qg sg s.heap.objs.size g cdg))) (hg : X.A.guards = some [])
    (hbody : ∀ (A : Around) (outer : List Env) (s : Shared) (H : Hp), Room k (A.deeper (lamEnv X sc s.heap.objs.size f c')) → A.guards = some [] → PE (lamCx X A outer s H E sc f c') body tb)
    (hN : Ng[i]? = some a) (hv : Vis sg a) (hd : (a == ("__debug__" : Str)) = false) (hcd : (a == ("__classdict__" : Str)) = false) :
    PE ((cxOf CXg X.prog X.w X.K X.mg X.base Ng qg sg g cdg X.A X.stack s H Eg).tr pn xe) (.Call (.Name a p1) [] [] p2)
      (fun σZ HZ Q => σZ[i]? = some (some (.ref f)) ∧ HZ c' = some (CodeO c' (X.env.qual ++ "<lambda>")) ∧ tb σ HZ Q) := by
  refine ⟨fun pinsZ sZ σZ HZ Q IZ ⟨hs, hc, ht⟩ => ?_⟩
  refine wpAny_Call_Name_kw (thn ((pe_var (pos := p1) (i := i) hN hv hd hcd).run pinsZ sZ σZ HZ (fun v H1 => v = .ref f ∧ H1 = HZ) IZ ⟨.ref f, hs, rfl, rfl⟩) fun u s1 ⟨v, H1, I1, r1, q1⟩ => ?_)
  obtain ⟨rfl, rfl⟩ := q1
  obtain rfl : u = Value.ref f := r1
  have of1 : s1.heap.get? f = some (PySem.W.kla_obj "<lambda>" (X.env.qual ++ "<lambda>") ar body sc (cloFrom X.env.cells sc.names []) pm c' ctv) := I1.base.keep f _ hf nf nfr (fun z => nomatch (show f ∈ ([] : List Addr) from z))
  refine PySem.W.callWith_F0 ⟨_, _, _, _, of1⟩ ?_
  have un : Un (frs X.stack) [] H H1 s.heap s1.heap := I1.base
  obtain ⟨⟨oc, vs, t, e1, e2, e3⟩, _, _⟩ := I1.hok c' _ hc
  have rc : codeAny (model X.prog X.w) (X.A.deeper (envOfC qg sg s.heap.objs.size g cdg)) (.call (.ref f) ⟨[], []⟩) (CR (L2.CX X.prog X.w) (envOfC qg sg s.heap.objs.size g cdg :: X.stack) X.prog X.w H1 s1 Q E) s1 := by
    refine PySem.W.kla_callFunE hr.depth of1 rfl L.co L.gen rfl ⟨c', oc, vs, t, rfl, e1, e2, e3⟩ ?_
    rw [hbind]
    refine wpAny_pure (wpAny_newFunctionEnv (fun y hy => (L.own y hy).2) (fun y hy => absurd hy (by simp)) (fun h₁ hns hsb => ⟨I1.nolimit.fresh _ hsb, ?_⟩) L.kind)
    show codeAny _ _ (.expr body (lamEnv X sc s1.heap.objs.size f c')) _ _
    have kp : ∀ b o, s1.heap.get? b = some o → h₁.get? b = some o := fun b o e => hsb.extBut b o (Nat.ne_of_lt (Heap.lt_size e)) (Heap.get?_push_of_some _ e)
    have J : L2.Inv (lamCx X (X.A.deeper (envOfC qg sg s.heap.objs.size g cdg)) (envOfC qg sg s.heap.objs.size g cdg :: X.stack) s1 H1 E sc f c') [] σ H1 { s1 with heap := h₁, toks := s1.toks + ([] : List (Str × Value)).length } :=
      lam_start2 I L I1.env0 hr.hd un hns kp
    refine PySem.W.kla_codeExpr (wpAny_mono ((hbody _ _ s1 H1 (hr.deeper _) hg).run [] _ _ H1 Q J ht) (fun v s' hq => ?_) fun e s' hq => hq)
    obtain ⟨w', H', J', rv, q⟩ := hq
    exact ⟨w', H', J'.os, J'.bare, J'.base, J'.hok, rv, q⟩
  refine wpAny_call (codeAny_mono rc fun r s' hq => ?_)
  cases r with
  | error e => exact tk e s' (XE.of_call (W := W) I1 (fun cls d H' z => hW cls d σZ H' I1.len z) hq)
  | ok fl =>
    cases fl with
    | ret u => exact I1.after hq
    | next => exact False.elim hq
    | brk => exact False.elim hq
    | cont => exact False.elim hq
/-- the def that calls what it got: a calls it; TT: what it makes of the lambda's reading -/
def GivesG (X : Cx) (Ng : List Str) (x : Str) (sg : Scope) (g : Addr) (cdg : Value) (bg : List Stmt) (a : Str) (q : Str) (TT : (XK → Hp → VK → Prop) → Hp → VK → Prop) : Prop :=
  ∀ (f c' : Addr) (s : Shared) (H : Hp) (Q : VK) (tl : XK → Hp → VK → Prop),
    (∀ (W : WX) (pn : List (Addr × Obj)) (xe : Value → Shared → Prop) (E : XK) (p1 p2 : Pos), Takes ((cxOf C8.CX0 X.prog X.w X.K X.mg X.base Ng x sg g cdg X.A X.stack s H C8.E0).tr pn xe) W → (∀ cls d (σ' : L2.St) H', σ'.length = Ng.length → E cls d H' → W cls d σ' H') →
      PE ((cxOf C8.CX0 X.prog X.w X.K X.mg X.base Ng x sg g cdg X.A X.stack s H C8.E0).tr pn xe) (.Call (.Name a p1) [] [] p2) (fun σZ HZ Q => σZ[0]? = some (some (.ref f)) ∧ HZ c' = some (CodeO c' q) ∧ tl E HZ Q)) →
    H c' = some (CodeO c' q) → TT tl H Q →
    ∃ t, PSs (cxOf C8.CX0 X.prog X.w X.K X.mg X.base Ng x sg g cdg X.A X.stack s H C8.E0).nox bg t ∧ t { nx := fun _ H' => Q .non H', rt := Q } (L2.start Ng [.ref f]) H
/-- x(lambda: body) -/
theorem pe_lamG {T : List (Addr × Str)} {TT : (XK → Hp → VK → Prop) → Hp → VK → Prop} {x a : Str} {g c P : Addr} {k : Nat} {pg : Arguments} {bg : List Stmt} {sg : Scope} {dV kV doc pm cdv ct oc : Value} {an od : Option Addr} {osl : Array (Option Value)} {Ng : List Str}
    {ar : Arguments} {body : Expr} {sc : Scope} {t : XK → TE} {p lpos pos : Pos} (hgl : Gl X x) (hm : X.mg x = some (.ref g)) (hk : PySem.W.keepIn X.K (.ref g) = true)
    (lk : X.K.lookup g = some ⟨oc, od, .func (PySem.W.fnOf x x pg bg sg dV kV doc pm an cdv ct), osl⟩) (hcg : PySem.W.codeIn X.K cdv x = true) (hb : L2.Binds X.K (PySem.W.fnOf x x pg bg sg dV kV doc pm an cdv ct) [a] []) (Sg : FnScope Ng [a] sg) (hNg : Ng[0]? = some a) (hva : Vis sg a)
    (hG : GivesG X Ng x sg g cdv bg a (X.env.qual ++ "<lambda>") TT)
    (TB : TabB X.base X.mg c P) (hcode : X.env.code = .ref c) (hmT : (P, X.env.qual ++ "<lambda>") ∈ T) (hu : ∀ p ∈ T, p.1 = P → p.2 = X.env.qual ++ "<lambda>") (hr : Room (k + 2) X.A) (hg : X.A.guards = some []) (L : LamS X.env.scope sc) (hdef : defaultsOf ar X.env = ([], []))
    (hbind : ∀ (q : Str) (cl : List (Str × Addr)) (pm cv ctv : Value), bindArgs (PySem.W.kla_fn "<lambda>" q ar body sc cl pm cv ctv) ⟨[], []⟩ = pure [])
    (hbody : ∀ (A : Around) (outer : List Env) (s : Shared) (H : Hp) (E : XK) (f c' : Addr), Room k (A.deeper (lamEnv X sc s.heap.objs.size f c')) → A.guards = some [] → PE (lamCx X A outer s H E sc f c') body (t E))
    (hdb : (x == ("__debug__" : Str)) = false) (hd : (a == ("__debug__" : Str)) = false) (hcd : (a == ("__classdict__" : Str)) = false) :
    PE X (.Call (.Name x p) [.Lambda ar body sc lpos] [] pos) (tLamG T TT t) := by
  refine ⟨fun pins s σ H Q I ⟨hT, h⟩ => ?_⟩
  refine wpAny_Call_Name_kw (ld_glob I hgl hm ?_ hdb)
  refine PySem.W.callWith_K (h₀ := X.base) I.ok.mod.kin hk ?_ (by rfl) (by rfl)
  show wpAny _ _ (spliced ((false, eval (.Lambda ar body sc lpos) X.env) :: backTo pos (starEach [] X.env))) _ _ s
  refine Calls.spliced_cons (lam_new I TB hcode hmT hu hT hdef (L.has I.ok) fun f c' pm' ctv H1 s' I1 eN T1 lv hf nf nfr hco => ?_)
  refine Calls.spliced_nil ⟨I1.kIn, ?_⟩
  have rc : codeAny (model X.prog X.w) X.A (.call (.ref g) ⟨[.ref f], []⟩) (CR C8.CX0 X.stack X.prog X.w H1 s' Q C8.E0) s' := by
    refine run_ofS (N := Ng) (ps := [a]) (us := [.ref f]) (vs := [.ref f]) lk hcg Sg hr I1.env0 (hb s' [.ref f] I1.kIn rfl) (.cons rfl .nil) rfl fun hr' => ?_
    obtain ⟨t', ht', hq'⟩ := hG f c' s' H1 Q (fun E H' Q' => t E σ H' Q') (fun W pn xe E p1 p2 tk hW => pe_actG (i := 0) I1 L hf nf nfr (hbind _ _ _ _ _) tk hW hr' hg (fun A outer s H hr2 hg2 => hbody A outer s H E f c' hr2 hg2) hNg hva hd hcd) hco (h H1 eN T1 lv)
    exact ⟨t', ht'.nox, hq'⟩
  refine wpAny_call (codeAny_mono rc fun r s2 hq => ?_)
  cases r with
  | error e => exact (show False from hq).elim
  | ok fl =>
    cases fl with
    | ret u => exact I1.after hq
    | next => exact False.elim hq
    | brk => exact False.elim hq
    | cont => exact False.elim hq
end
end Mn

-- Mn5
set_option Elab.async false
set_option linter.all false
set_option maxRecDepth 100000
set_option autoImplicit false
namespace Mn
open PySem PySem.Spec L2
section
variable {Ω : Wd} {N : List Str} {sc : Sk} {lv : Nat} {X : Cx} {fsp : Nat → Sp}
theorem cr_showG (g : Good Ω N sc lv X) (fx : Facts Ω fsp lv) : CallR X (.builtin "repr") (rShow Ω.K) := by
  rw [← g.K]
  refine cr_show ⟨g.grd, g.room.mono (Nat.zero_le _)⟩ ?_
  unfold SysOk
  rw [g.base]
  exact fx.sys
/-- f(e, ..), f a def of the text -/
theorem pe_callG {W : WX} {f : Nat} {e : E} {es : Es} {t : TA} {q pos : Pos} (g : Good Ω N sc lv X) (fx : Facts Ω fsp lv) (tk : Takes X W) (hf : f < Ω.Γ.fns.length) (hg : isGl sc.s (gname Ω.Γ.fns f) = true) (ha : PA X (up Ω.Γ N e :: ups Ω.Γ N es) t) :
    PE X (.Call (.Name (gname Ω.Γ.fns f) q) (up Ω.Γ N e :: ups Ω.Γ N es) [] pos) (fun σ H Q => t σ H fun vs H1 => fsp f vs H1 Q fun c d H' => W c d σ H') := by
  obtain ⟨gl, db⟩ := g.gl hg
  obtain ⟨m1, k1, F⟩ := fx.fns f hf
  refine ⟨fun pins s σ H Q I h => ?_⟩
  refine wpAny_Call_Name_kw (ld_glob I gl (by rw [g.mg]; exact m1) ?_ db)
  have hk : PySem.W.keepIn X.K (.ref (Ω.fa f)) = true := by rw [g.K]; exact k1
  exact PySem.W.callWith_K (h₀ := X.base) I.ok.mod.kin hk (thn (ha.run pos pins s σ H _ I h) fun us s1 ⟨vs, H1, I1, r, q⟩ => ⟨I1.kIn, run_fg g F tk I1 r q⟩) (star_up _ _ _) (stars_up _ _ _)
theorem pe_callG0 {W : WX} {f : Nat} {q pos : Pos} (g : Good Ω N sc lv X) (fx : Facts Ω fsp lv) (tk : Takes X W) (hf : f < Ω.Γ.fns.length) (hg : isGl sc.s (gname Ω.Γ.fns f) = true) :
    PE X (.Call (.Name (gname Ω.Γ.fns f) q) [] [] pos) (fun σ H Q => tNil σ H fun vs H1 => fsp f vs H1 Q fun c d H' => W c d σ H') := by
  obtain ⟨gl, db⟩ := g.gl hg
  obtain ⟨m1, k1, F⟩ := fx.fns f hf
  refine ⟨fun pins s σ H Q I h => ?_⟩
  refine wpAny_Call_Name_kw (ld_glob I gl (by rw [g.mg]; exact m1) ?_ db)
  exact PySem.W.callWith_K0 I.kIn (by rw [g.K]; exact k1) (run_fg (us := []) g F tk I .nil h)
theorem boot_bi (b : Bi) : bootBuiltins b.nm = some (match b with | .int => .type "int" | .tuple => .type "tuple" | .list => .type "list" | .len => .builtin "len" | .abs => .builtin "abs" | .max => .builtin "max" | .min => .builtin "min" | .divmod => .builtin "divmod" | .repr => .builtin "repr" | .all => .builtin "all" | .any => .builtin "any" | .sorted => .builtin "sorted" | .str => .type "str") := by
  cases b <;> decide +kernel
theorem plainO {b : Bi} {f : Value} (g : Good Ω N sc lv X) (h : CallR X f (rBi X.K b)) (hp : (decide (b.nm = ("repr" : Str)) || decide (b.nm = ("str" : Str))) = false) : CallR X f (rBiO Ω.K Ω.Γ fsp b) := by
  intro pins s σ H xs us Q I r q
  rcases q with q | ⟨e, _⟩ | ⟨e, _⟩
  · rw [← g.K] at q
    exact h pins s σ H xs us Q I r q
  · simp [e] at hp
  · simp [e] at hp
theorem pe_biG {b : Bi} {e : E} {es : Es} {t : TA} {q pos : Pos} (g : Good Ω N sc lv X) (fx : Facts Ω fsp lv) (hg : isGl sc.s b.nm = true) (ha : PA X (up Ω.Γ N e :: ups Ω.Γ N es) t) :
    PE X (.Call (.Name b.nm q) (up Ω.Γ N e :: ups Ω.Γ N es) [] pos) (tCB (rBiO Ω.K Ω.Γ fsp b) t) := by
  obtain ⟨gl, db⟩ := g.gl hg
  have hm : X.mg b.nm = none := by rw [g.mg]; exact fx.bis b
  have hv := boot_bi b
  have hc := g.calm
  have eK := g.K
  cases b with
  | int => exact pe_callTy (plainO g (b := .int) call_int1 (by decide +kernel)) gl hm hv ha (by decide) db (star_up _ _ _) (stars_up _ _ _)
  | tuple => exact pe_callTy (plainO g (b := .tuple) call_tuple_of (by decide +kernel)) gl hm hv ha (by decide) db (star_up _ _ _) (stars_up _ _ _)
  | list => exact pe_callTy (plainO g (b := .list) call_list_of (by decide +kernel)) gl hm hv ha (by decide) db (star_up _ _ _) (stars_up _ _ _)
  | len => exact pe_callB (plainO g (b := .len) call_len_seq (by decide +kernel)) gl hm hv ha (by decide) db (star_up _ _ _) (stars_up _ _ _)
  | abs => exact pe_callB (plainO g (b := .abs) call_abs (by decide +kernel)) gl hm hv ha (by decide) db (star_up _ _ _) (stars_up _ _ _)
  | max => exact pe_callB (plainO g (b := .max) ((call_max2 hc).or (cr_max hc)) (by decide +kernel)) gl hm hv ha (by decide) db (star_up _ _ _) (stars_up _ _ _)
  | min => exact pe_callB (plainO g (b := .min) ((call_min2 hc).or (cr_min hc)) (by decide +kernel)) gl hm hv ha (by decide) db (star_up _ _ _) (stars_up _ _ _)
  | divmod => exact pe_callB (plainO g (b := .divmod) call_divmod (by decide +kernel)) gl hm hv ha (by decide) db (star_up _ _ _) (stars_up _ _ _)
  | repr => exact pe_callB (fun pins s σ H xs us Q I r q => by rcases q with q | ⟨_, q⟩ | ⟨e, _⟩; exact cr_showG g fx pins s σ H xs us Q I r q; exact cr_own_repr g fx pins s σ H xs us Q I r q; exact absurd e (by decide +kernel)) gl hm hv ha (by decide) db (star_up _ _ _) (stars_up _ _ _)
  | all => exact pe_callB (plainO g (b := .all) (cr_all hc) (by decide +kernel)) gl hm hv ha (by decide) db (star_up _ _ _) (stars_up _ _ _)
  | any => exact pe_callB (plainO g (b := .any) (cr_any hc) (by decide +kernel)) gl hm hv ha (by decide) db (star_up _ _ _) (stars_up _ _ _)
  | str => exact pe_callTy (fun pins s σ H xs us Q I r q => by rcases q with q | ⟨e, _⟩ | ⟨_, q⟩; exact (SkE.call_str_str.or call_str_int) pins s σ H xs us Q I r q; exact absurd e (by decide +kernel); exact cr_own_str g fx pins s σ H xs us Q I r q) gl hm hv ha (by decide) db (star_up _ _ _) (stars_up _ _ _)
  | sorted => exact pe_callB (plainO g (b := .sorted) (fun _ _ _ _ _ _ _ _ _ h => h.elim) (by decide +kernel)) gl hm hv ha (by decide) db (star_up _ _ _) (stars_up _ _ _)
/-- a built-in class as a value -/
theorem pe_ty {t : String} {p : Pos} (g : Good Ω N sc lv X) (fx : Facts Ω fsp lv) (hg : isGl sc.s (Str.ofString t) = true) (hb : bootBuiltins (Str.ofString t) = some (.type t)) (hn : Str.ofString t ≠ "__name__") : PE X (.Name (Str.ofString t) p) (tC (.ty t)) := by
  obtain ⟨gl, db⟩ := g.gl hg
  exact pe_bltn gl (by rw [g.mg]; exact fx.tys t hb) hb rfl hn db
theorem star_name (x : Str) (p : Pos) (es : List Expr) (env : Env) : starEach (.Name x p :: es) env = (false, eval (.Name x p) env) :: starEach es env := rfl
theorem pa_tys (g : Good Ω N sc lv X) (fx : Facts Ω fsp lv) : ∀ ts : List (String × Pos), (ts.all fun t => isGl sc.s (Str.ofString t.1) && decide (bootBuiltins (Str.ofString t.1) = some (.type t.1)) && decide (Str.ofString t.1 ≠ "__name__")) = true →
    PA X (ts.map fun t => .Name (Str.ofString t.1) t.2) (tTys (ts.map (·.1)))
  | [], _ => pa_nil
  | t :: ts, h => by
    simp only [List.all_cons, Bool.and_eq_true, decide_eq_true_eq] at h
    obtain ⟨⟨⟨h1, h2⟩, h3⟩, h4⟩ := h
    exact pa_cons (pe_ty g fx h1 h2 h3) (pa_tys g fx ts (by simpa only [Bool.and_eq_true, decide_eq_true_eq] using h4)) (star_name _ _ _ _)
theorem blk_good {s : Shared} {H : Hp} {sc' : Scope} {C : Addr} {cl : List (Str × Addr)} {fp : List Addr} (g : Good Ω N sc lv X) : Good Ω N ⟨relS sc' sc.s, false⟩ lv (X.blk s H sc' (compEnvC sc' cl C X.env) fp) :=
  ⟨g.P, g.w, g.K, g.mg, g.base, g.N, g.nd, by rw [← g.sc]; rfl, (fun z => by cases z), g.calm, g.room, g.grd, PassesOwn.never⟩
end

section
variable {Ω : Wd} {N : List Str} {lv : Nat} {fsp : Nat → Sp} {tsp : (XK → TE) → TE}
def PLs (X : Cx) : List Expr → List TE → Prop
  | e :: es, t :: ts => PE X e t ∧ PLs X es ts
  | [], [] => True
  | _, _ => False
theorem pj_of {X : Cx} : ∀ {es : List Expr} {ts : List TE}, PLs X es ts → PJ X es ts
  | [], [], _ => .nil
  | _ :: _, _ :: _, h => .cons h.1 (pj_of h.2)
  | [], _ :: _, h => h.elim
  | _ :: _, [], h => h.elim
/-- keywords, each with its name -/
structure PKs (X : Cx) (kws : List Keyword) (ks : List Str) (t : TA) : Prop where
  pk : PK X kws t
  all : ∀ pos, (backToKw pos (keywordEach kws X.env)).all (·.1.isSome) = true
  nms : ∀ pos, (backToKw pos (keywordEach kws X.env)).filterMap (·.1) = ks
  any : ∀ pos, (backToKw pos (keywordEach kws X.env)).any (·.1.isNone) = false
theorem PKs.cons {X : Cx} {kws : List Keyword} {ks : List Str} {t : TA} {k : Str} {e : Expr} {p : Pos} {te : TE} (h : PE X e te) (r : PKs X kws ks t) : PKs X (⟨some k, e, p⟩ :: kws) (k :: ks) (tCons te t) :=
  ⟨pk_cons h r.pk, fun pos => r.all pos, fun pos => congrArg (k :: ·) (r.nms pos), fun pos => r.any pos⟩
theorem pe_callKG {sc : Sk} {X : Cx} {W : WX} {f : Nat} {ks : List Str} {kws : List Keyword} {t : TA} {q pos : Pos} (g : Good Ω N sc lv X) (fx : Facts Ω fsp lv) (tk : Takes X W) (hf : f < Ω.Γ.fns.length) (hg : isGl sc.s (gname Ω.Γ.fns f) = true) (hk : (f, ks) ∈ Ω.Γ.kws) (pk : PKs X kws ks t) :
    PE X (.Call (.Name (gname Ω.Γ.fns f) q) [] kws pos) (fun σ H Q => t σ H fun vs H1 => fsp f vs H1 Q fun c d H' => W c d σ H') := by
  obtain ⟨gl, db⟩ := g.gl hg
  obtain ⟨m1, k1, _⟩ := fx.fns f hf
  refine ⟨fun pins s σ H Q I h => ?_⟩
  refine wpAny_Call_Name_kw (ld_glob I gl (by rw [g.mg]; exact m1) ?_ db)
  refine PySem.W.callWith_KW0 (h₀ := X.base) I.ok.mod.kin (by rw [g.K]; exact k1) (pk.all pos) (thn (pk.pk.run pos pins s σ H _ I h) fun ws s2 ⟨zs, H2, I2, rz, q2⟩ => ⟨I2.kIn, ?_⟩) (pk.any pos)
  rw [pk.nms pos]
  exact run_fg g (fx.kws _ hk) tk I2 rz q2
theorem lam_good {sc : Sk} {X : Cx} {A : Around} {outer : List Env} {s : Shared} {H : Hp} {E : XK} {scope : Scope} {f c' : Addr} (g : Good Ω N sc lv X) (hr : Room (lv + 2) (A.deeper (LamX.lamEnv X scope s.heap.objs.size f c'))) (hg : A.guards = some []) : Good Ω N ⟨scope, false⟩ lv (LamX.lamCx X A outer s H E scope f c') :=
  ⟨g.P, g.w, g.K, g.mg, g.base, g.N, g.nd, rfl, (fun z => by cases z), rfl, hr, hg, passes_of (X := LamX.lamCx X A outer s H E scope f c') rfl⟩
theorem pt_of {X : Cx} {e : Expr} {t : TE} (h : PE X e t) (he : ∀ whole, isTrue e X.env whole = (do let v ← whole; standAt e.pos; holding [v] (truthy v))) : PT X e (tB t) := pt_val h he
mutual
theorem peE (fx : Facts Ω fsp lv) (tl : TellOk Ω N lv tsp) : ∀ (e : E) (sc : Sk), wfE Ω.Γ N sc e = true → ∀ (X : Cx) (W : WX), Good Ω N sc lv X → Takes X W →
    PE X (up Ω.Γ N e) (rd Ω.P Ω.w Ω.K Ω.Γ Ω.gv fsp tsp e W).1 ∧ PT X (up Ω.Γ N e) (rd Ω.P Ω.w Ω.K Ω.Γ Ω.gv fsp tsp e W).2
  | .var i p, sc, h, X, W, g, tk => by
    simp only [wfE, Bool.and_eq_true, decide_eq_true_eq] at h
    obtain ⟨v1, v2, v3⟩ := g.vis h.2
    simp only [up, rd]
    have z := pe_var (X := X) (i := i) (pos := p) (by rw [g.N]; exact gname_at h.1) v1 v2 v3
    exact ⟨z, pt_of z fun _ => rfl⟩
  | .con c k p, sc, h, X, W, g, tk => by
    simp only [up, rd]
    have z : PE X (.Constant c k p) (tC (cV c)) := by
      cases c with
      | int i => exact pe_int
      | str x => exact pe_str
      | bool b => exact pe_bl
      | none => exact pe_non
      | _ => cases h
    exact ⟨z, pt_of z fun _ => rfl⟩
  | .glo i p, sc, h, X, W, g, tk => by
    simp only [wfE, Bool.and_eq_true, decide_eq_true_eq] at h
    obtain ⟨gl, db⟩ := g.gl h.2
    obtain ⟨u, m1, r⟩ := fx.gls i h.1
    simp only [up, rd]
    have z := pe_glob (X := X) (pos := p) gl (by rw [g.mg]; exact m1) r db
    exact ⟨z, pt_of z fun _ => rfl⟩
  | .bin op a b p, sc, h, X, W, g, tk => by
    simp only [wfE, Bool.and_eq_true] at h
    simp only [up, rd]
    have z := pe_op (pos := p) (op_binO g fx op) (peE fx tl a sc h.1 X W g tk).1 (peE fx tl b sc h.2 X W g tk).1
    exact ⟨z, pt_of z fun _ => rfl⟩
  | .neg a p, sc, h, X, W, g, tk => by
    simp only [wfE] at h
    simp only [up, rd]
    have z := pe_un (pos := p) un_neg (peE fx tl a sc h X W g tk).1
    exact ⟨z, pt_of z fun _ => rfl⟩
  | .nt a p, sc, h, X, W, g, tk => by
    simp only [wfE] at h
    simp only [up, rd]
    obtain ⟨z1, z2⟩ := peE fx tl a sc h X W g tk
    exact ⟨pe_not z1, pt_not z2⟩
  | .bop op es p, sc, h, X, W, g, tk => by
    simp only [wfE] at h
    simp only [up, rd]
    obtain ⟨z1, z2⟩ := peB fx tl op es sc h X W g tk p
    exact ⟨z1, z2.pt⟩
  | .cmp op a b p, sc, h, X, W, g, tk => by
    simp only [wfE, Bool.and_eq_true] at h
    simp only [up, rd]
    have z1 := (peE fx tl a sc h.1 X W g tk).1
    have z2 := (peE fx tl b sc h.2 X W g tk).1
    exact ⟨pe_cmpR (op_cmpO g fx op) z1 z2 (mark_up op _ _ b), pt_cmpR (op_cmpO g fx op) z1 z2 (mark_up op _ _ b)⟩
  | .ife c a b p, sc, h, X, W, g, tk => by
    simp only [wfE, Bool.and_eq_true] at h
    simp only [up, rd]
    exact ⟨pe_ifExp (peE fx tl c sc h.1.1 X W g tk).2 (peE fx tl a sc h.1.2 X W g tk).1 (peE fx tl b sc h.2 X W g tk).1, ⟨fun _ _ _ _ _ _ z => z.elim⟩⟩
  | .lst es p, sc, h, X, W, g, tk => by
    simp only [wfE] at h
    simp only [up, rd]
    have z := pe_lst (pos := p) (peA fx tl es sc h X W g tk)
    exact ⟨z, pt_of z fun _ => rfl⟩
  | .tup es k p, sc, h, X, W, g, tk => by
    simp only [wfE] at h
    simp only [up, rd]
    have z := pe_tup (pos := p) (x1 := k) (peA fx tl es sc h X W g tk)
    exact ⟨z, pt_of z fun _ => rfl⟩
  | .dis .nil p, sc, h, X, W, g, tk => by
    simp only [up, upk, upv, rd]
    have z := pe_dnewK (X := X) (pos := p)
    exact ⟨z, pt_of z fun _ => rfl⟩
  | .dis (.cons k v ps) p, sc, h, X, W, g, tk => by
    simp only [wfE, wfP, plen, Bool.and_eq_true, decide_eq_true_eq] at h
    obtain ⟨⟨⟨h1, h2⟩, h3⟩, h4⟩ := h
    obtain ⟨r1, r2, r3⟩ := peP fx tl ps sc h3 X W g tk p
    simp only [up, upk, upv, rd]
    have z := pe_disp (pos := p) (pps_cons (peE fx tl k sc h1 X W g tk).1 (peE fx tl v sc h2 X W g tk).1 r1) (by simp only [List.all_cons, r2]; rfl) (by simp only [List.length_cons, r3.1, r3.2]) (fun q => by cases q)
      (by rw [List.length_cons, r3.1]; exact of_decide_eq_true h4)
    exact ⟨z, pt_of z fun _ => rfl⟩
  | .idx a b p, sc, h, X, W, g, tk => by
    simp only [wfE, Bool.and_eq_true] at h
    simp only [up, rd]
    have ix : IxR X (rIxA Ω.K) := ix_A g
    have z := pe_ix (pos := p) ix (peE fx tl a sc h.1 X W g tk).1 (peE fx tl b sc h.2 X W g tk).1 (plain_up b)
    exact ⟨z, pt_of z fun _ => rfl⟩
  | .sli a lo hi q p, sc, h, X, W, g, tk => by
    simp only [wfE, Bool.and_eq_true] at h
    simp only [up, rd]
    have sl : SlR X (rSlL Ω.K) := by rw [← g.K]; exact sl_list
    have z := pe_slice (pos := p) (p2 := q) sl (peE fx tl a sc h.1.1 X W g tk).1 (peO fx tl lo sc h.1.2 X W g tk) (peO fx tl hi sc h.2 X W g tk)
    exact ⟨z, pt_of z fun _ => rfl⟩
  | .rev a k p1 p2 q p, sc, h, X, W, g, tk => by
    simp only [wfE] at h
    simp only [up, rd]
    have z := pe_revL (k := k) (p1 := p1) (p2 := p2) (p3 := q) (pos := p) (peE fx tl a sc h X W g tk).1
    rw [g.K] at z
    exact ⟨z, pt_of z fun _ => rfl⟩
  | .call f q .nil p, sc, h, X, W, g, tk => by
    simp only [wfE, Bool.and_eq_true, decide_eq_true_eq] at h
    simp only [up, ups, rd, rdA]
    have z := pe_callG0 (q := q) (pos := p) g fx tk h.1.2 h.2
    exact ⟨z, pt_of z fun _ => rfl⟩
  | .call f q (.cons e es) p, sc, h, X, W, g, tk => by
    simp only [wfE, wfs, Bool.and_eq_true, decide_eq_true_eq] at h
    simp only [up, ups, rd, rdA]
    have z := pe_callG (q := q) (pos := p) g fx tk h.1.2 h.2 (pa_cons (peE fx tl e sc h.1.1.1 X W g tk).1 (peA fx tl es sc h.1.1.2 X W g tk) (star_up _ _ _))
    exact ⟨z, pt_of z fun _ => rfl⟩
  | .bi b q (.cons e es) p, sc, h, X, W, g, tk => by
    simp only [wfE, wfs, Bool.and_eq_true, decide_eq_true_eq] at h
    simp only [up, ups, rd, rdA]
    have z := pe_biG (q := q) (pos := p) g fx h.2 (pa_cons (peE fx tl e sc h.1.1.1 X W g tk).1 (peA fx tl es sc h.1.1.2 X W g tk) (star_up _ _ _))
    exact ⟨z, pt_of z fun _ => rfl⟩
  | .isi a t tp q p, sc, h, X, W, g, tk => by
    simp only [wfE, Bool.and_eq_true, decide_eq_true_eq] at h
    obtain ⟨⟨⟨⟨h1, h2⟩, h3⟩, h4⟩, h5⟩ := h
    obtain ⟨gl, db⟩ := g.gl h2
    simp only [up, rd]
    have z := pe_callB (X := X) (p := q) (pos := p) call_isi gl (by rw [g.mg]; exact fx.isi) (by decide +kernel) (pa_cons (peE fx tl a sc h1 X W g tk).1 (pa_cons (pe_ty (p := tp) g fx h3 h4 h5) pa_nil (star_name _ _ _ _)) (star_up _ _ _)) (by decide) db (star_up _ _ _) (by rw [star_name]; rfl)
    rw [g.K] at z
    exact ⟨z, pt_of z fun _ => rfl⟩
  | .isiT a ts k tp q p, sc, h, X, W, g, tk => by
    simp only [wfE, Bool.and_eq_true] at h
    obtain ⟨⟨h1, h2⟩, h3⟩ := h
    obtain ⟨gl, db⟩ := g.gl h2
    simp only [up, rd]
    have z := pe_callB (X := X) (p := q) (pos := p) call_isiT gl (by rw [g.mg]; exact fx.isi) (by decide +kernel) (pa_cons (peE fx tl a sc h1 X W g tk).1 (pa_cons (pe_tup (x1 := k) (pos := tp) (pa_tys g fx ts h3)) pa_nil rfl) (star_up _ _ _)) (by decide) db (star_up _ _ _) rfl
    rw [g.K] at z
    exact ⟨z, pt_of z fun _ => rfl⟩
  | .att a f fld p, sc, h, X, W, g, tk => by
    simp only [wfE, Bool.and_eq_true] at h
    simp only [up, rd]
    have z := pe_att (f := f) (fld := fld) (pos := p) g fx (peE fx tl a sc h.1 X W g tk).1 (base_up _ _ _ _ h.2)
    exact ⟨z, pt_of z fun _ => rfl⟩
  | .isc a c cp q p, sc, h, X, W, g, tk => by
    simp only [wfE, Bool.and_eq_true, decide_eq_true_eq] at h
    obtain ⟨⟨⟨h1, h2⟩, h3⟩, h4⟩ := h
    obtain ⟨gl, db⟩ := g.gl h2
    simp only [up, rd]
    have z := pe_callB (X := X) (p := q) (pos := p) call_isi gl (by rw [g.mg]; exact fx.isi) (by decide +kernel) (pa_cons (peE fx tl a sc h1 X W g tk).1 (pa_cons (pe_ocl (p := cp) g fx h3 h4) pa_nil (star_name _ _ _ _)) (star_up _ _ _)) (by decide) db (star_up _ _ _) (by rw [star_name]; rfl)
    rw [g.K] at z
    exact ⟨z, pt_of z fun _ => rfl⟩
  | .fst es p, sc, h, X, W, g, tk => by
    simp only [wfE, Bool.and_eq_true, decide_eq_true_eq] at h
    obtain ⟨h1, h2⟩ := h
    have zs := peL fx tl es sc h1 X W g tk
    simp only [up, rd]
    have z : PE X (.JoinedStr (ups Ω.Γ N es) p) (fun σ H Q => tJs (rdL Ω.P Ω.w Ω.K Ω.Γ Ω.gv fsp tsp es W) Str.empty σ H fun out H1 => Q (.str out) H1) := by
      cases es with
      | nil => simp [elen] at h2
      | cons a es =>
        cases es with
        | nil => simp [elen] at h2
        | cons b es => exact pe_joined (pj_of zs)
    exact ⟨z, pt_of z fun _ => rfl⟩
  | .fmt a rp p, sc, h, X, W, g, tk => by
    simp only [wfE] at h
    simp only [up, rd]
    cases rp with
    | true =>
      have z := pe_fmtR (pos := p) (peE fx tl a sc h X W g tk).1
      exact ⟨z, pt_of z fun _ => rfl⟩
    | false =>
      have z := pe_fmt (pos := p) (peE fx tl a sc h X W g tk).1
      exact ⟨z, pt_of z fun _ => rfl⟩
  | .lc elt x xp it c sc' p, sc, h, X, W, g, tk => by
    simp only [wfE, Bool.and_eq_true, decide_eq_true_eq] at h
    obtain ⟨⟨⟨⟨⟨h1, h2⟩, h3⟩, h4⟩, h5⟩, h6⟩ := h
    simp only [up, rd]
    have ok := blkOk_by h3
    rw [← g.N, ← g.sc] at ok
    have z := pe_lc (X := X) (pos := p) (own := [(gname N x, x)]) (g := gName x) g.calm g.nd (peI fx tl it sc h1 X W0 g LamX.takes0 (.Name (gname N x) xp)) (by rw [g.N] at ok ⊢; exact ok)
      (fun s H C cl fp => pg_name (X := X.blk s H sc' (compEnvC sc' cl C X.env) fp) (pos := xp) g.nd (by rw [g.N]; exact gname_at h2) (.inl (by rw [(blk_good g).sc]; exact h4)) (.inr (by rw [(blk_good g).sc]; exact h4)))
      (fun s H C cl fp => peC fx tl c _ h6 _ W0 (blk_good g) LamX.takes0)
      (fun s H C cl fp => (peE fx tl elt _ h5 _ W0 (blk_good g) LamX.takes0).1) (fun _ => by cases it <;> first | rfl | (rename_i e; cases e <;> (simp only [upi, up]; rfl)))
    exact ⟨z, pt_of z fun _ => rfl⟩
  | .me m o q es p, sc, h, X, W, g, tk => by
    simp only [wfE, Bool.and_eq_true, decide_eq_true_eq] at h
    obtain ⟨⟨⟨⟨⟨h1, h2⟩, h3⟩, h4⟩, h5⟩, h6⟩ := h
    have zo := (peE fx tl o sc h1 X W g tk).1
    have zs := peL fx tl es sc h2 X W g tk
    have z : PE X (.Call (.Attribute (up Ω.Γ N o) m.nm q) (ups Ω.Γ N es) [] p) (rdMe Ω.K m (rd Ω.P Ω.w Ω.K Ω.Γ Ω.gv fsp tsp o W).1 (rdL Ω.P Ω.w Ω.K Ω.Γ Ω.gv fsp tsp es W)) := by
      have few : ∀ es : Es, decide (elen es < 29) = true → ((backTo p (starEach (ups Ω.Γ N es) X.env)).all (fun x => !x.1) && (backToKw p (keywordEach [] X.env)).all (fun x => x.1.isSome) && decide ((ups Ω.Γ N es).length + ([] : List Keyword).length + (if ([] : List Keyword).isEmpty then 0 else 1) < 30)) = true := fun es h => by
        rw [starsN_up, ups_len]
        have h' := of_decide_eq_true h
        show (true && true && decide (elen es + 0 + 0 < 30)) = true
        rw [decide_eq_true (by omega)] <;> rfl
      have f4 := few es (decide_eq_true h4)
      cases m with
      | append =>
        cases es with
        | nil => cases h5
        | cons a es =>
          cases es with
          | nil =>
            obtain ⟨z1, _⟩ := zs
            simp only [ups, rdL, rdMe, Me.nm] at z1 f4 ⊢
            have z := pe_bm (X := X) (apos := q) (cpos := p) PySem.F.plainAttrs_list PySem.F.slot_list_append PySem.F.type_list_append mt_append zo (pa_cons z1 pa_nil (star_up _ _ _)) (base_up _ _ _ _ (by simpa using h6)) f4 h3 (star_up _ _ _) rfl
            rw [g.K] at z
            exact z
          | cons b es => simp [elen] at h5
      | insert =>
        cases es with
        | nil => cases h5
        | cons a es =>
          cases es with
          | nil => cases h5
          | cons b es =>
            cases es with
            | nil =>
              obtain ⟨z1, z2, _⟩ := zs
              simp only [ups, rdL, rdMe, Me.nm] at z1 z2 f4 ⊢
              have z := pe_bm (X := X) (apos := q) (cpos := p) PySem.F.plainAttrs_list PySem.F.slot_list_insert PySem.F.type_list_insert mt_insert zo (pa_cons z1 (pa_cons z2 pa_nil (star_up _ _ _)) (star_up _ _ _)) (base_up _ _ _ _ (by simpa using h6)) f4 h3 (star_up _ _ _) (by rw [star_up]; rfl)
              rw [g.K] at z
              exact z
            | cons c es => simp [elen] at h5
      | get =>
        cases es with
        | nil => cases h5
        | cons a es =>
          cases es with
          | nil => cases h5
          | cons b es =>
            cases es with
            | nil =>
              obtain ⟨z1, z2, _⟩ := zs
              simp only [ups, rdL, rdMe, Me.nm] at z1 z2 f4 ⊢
              exact pe_dget2 (hu_of g.room) zo z1 z2 ⟨base_up _ _ _ _ (by simpa using h6), f4, h3, by rw [star_up, star_up]; rfl⟩
            | cons c es => simp [elen] at h5
      | pop =>
        cases es with
        | nil => cases h5
        | cons a es =>
          cases es with
          | nil =>
            obtain ⟨z1, _⟩ := zs
            simp only [ups, rdL, rdMe, Me.nm] at z1 f4 ⊢
            have z := pe_bm (X := X) (apos := q) (cpos := p) PySem.F.plainAttrs_list PySem.F.slot_list_pop PySem.F.type_list_pop mt_popAt zo (pa_cons z1 pa_nil (star_up _ _ _)) (base_up _ _ _ _ (by simpa using h6)) f4 h3 (star_up _ _ _) rfl
            rw [g.K] at z
            exact z
          | cons b es => simp [elen] at h5
      | join =>
        cases es with
        | nil => cases h5
        | cons a es =>
          cases es with
          | nil =>
            obtain ⟨z1, _⟩ := zs
            simp only [ups, rdL, rdMe, Me.nm] at z1 ⊢
            have hb : attributeBase (up Ω.Γ N o) "join" X.env (eval (up Ω.Γ N o) X.env) = eval (up Ω.Γ N o) X.env := by
              rcases Bool.or_eq_true_iff.mp h6 with h6 | h6
              · exact base_up _ _ _ _ h6
              · cases o <;> first | (cases h6; done) | (simp only [up]; rfl)
            have z := pe_join (X := X) (apos := q) (pos := p) zo z1 (star_up _ _ _) hb h3
            rw [g.K] at z
            exact z
          | cons b es => simp [elen] at h5
    simp only [up, rd]
    exact ⟨z, pt_of z fun _ => rfl⟩
  | .bi b q .nil p, sc, h, X, W, g, tk => by simp only [wfE, elen, Bool.and_eq_true, decide_eq_true_eq] at h; exact absurd (of_decide_eq_true h.1.2) (Nat.lt_irrefl _)
  | .callk f q ks es p, sc, h, X, W, g, tk => by
    simp only [wfE, Bool.and_eq_true, decide_eq_true_eq] at h
    obtain ⟨⟨⟨⟨h1, h2⟩, h3⟩, h4⟩, h5⟩ := h
    simp only [up, rd]
    have z := pe_callKG (q := q) (pos := p) g fx tk h2 h3 h5 (peK fx tl ks es sc h1 X W g tk h4)
    exact ⟨z, pt_of z fun _ => rfl⟩
  | .srt q elt x xp it c sc' p1 p, sc, h, X, W, g, tk => by
    simp only [wfE, Bool.and_eq_true, decide_eq_true_eq] at h
    obtain ⟨⟨⟨⟨⟨⟨h0, h1⟩, h2⟩, h3⟩, h4⟩, h5⟩, h6⟩ := h
    obtain ⟨gl, db⟩ := g.gl h0
    simp only [up, rd]
    have ok := blkOk_by h3
    rw [← g.N, ← g.sc] at ok
    have z1 := pe_sk (X := X) (k := kitI X.prog X.w) (pos := p1) (own := [(gname N x, x)]) (g := gName x) g.calm g.nd (peI fx tl it sc h1 X W0 g LamX.takes0 (.Name (gname N x) xp)) (by rw [g.N] at ok ⊢; exact ok)
      (fun s H C cl fp => pg_name (X := X.blk s H sc' (compEnvC sc' cl C X.env) fp) (pos := xp) g.nd (by rw [g.N]; exact gname_at h2) (.inl (by rw [(blk_good g).sc]; exact h4)) (.inr (by rw [(blk_good g).sc]; exact h4)))
      (fun s H C cl fp => peC fx tl c _ h6 _ W0 (blk_good g) LamX.takes0)
      (fun s H C cl fp => (peE fx tl elt _ h5 _ W0 (blk_good g) LamX.takes0).1) (fun _ => by cases it <;> first | rfl | (rename_i e; cases e <;> (simp only [upi, up]; rfl)))
    have z := pe_callB (X := X) (p := q) (pos := p) (cr_sortedSet g.calm) gl (by rw [g.mg]; exact fx.bis .sorted) (by decide +kernel) (pa_cons z1 pa_nil rfl) (by decide) db rfl rfl
    rw [g.P, g.w] at z
    exact ⟨z, pt_of z fun _ => rfl⟩
  | .srs q1 q2 e p1 p, sc, h, X, W, g, tk => by
    simp only [wfE, Bool.and_eq_true] at h
    obtain ⟨⟨h0, h1⟩, h2⟩ := h
    obtain ⟨gl, db⟩ := g.gl h0
    obtain ⟨gl2, db2⟩ := g.gl h1
    simp only [up, rd]
    have z1 := pe_callTy (X := X) (p := q2) (pos := p1) (cr_setI g.calm) gl2 (by rw [g.mg]; exact fx.set) (by decide +kernel) (pa_cons (peE fx tl e sc h2 X W g tk).1 pa_nil (star_up _ _ _)) (by decide) db2 (star_up _ _ _) rfl
    have z := pe_callB (X := X) (p := q1) (pos := p) (cr_sortedSet g.calm) gl (by rw [g.mg]; exact fx.bis .sorted) (by decide +kernel) (pa_cons z1 pa_nil rfl) (by decide) db rfl rfl
    rw [g.w, g.K] at z
    exact ⟨z, pt_of z fun _ => rfl⟩
  | .told f q body ar scope lp p, sc, h, X, W, g, tk => by
    simp only [wfE, Bool.and_eq_true, decide_eq_true_eq] at h
    obtain ⟨⟨⟨⟨⟨h1, h2⟩, h3⟩, h4⟩, h5⟩, h6⟩ := h
    simp only [up, rd]
    rw [h1]
    have ls := LamX.lamS_by h4
    rw [← g.sc] at ls
    have z := tl sc X g h3 ar (up Ω.Γ N body) scope (fun E => (rd Ω.P Ω.w Ω.K Ω.Γ Ω.gv fsp tsp body fun c d _ H => E c d H).1) q lp p h2 ls h5 fun A outer s H E f c' hr hg =>
      (peE fx tl body ⟨scope, false⟩ h6 _ _ (lam_good g hr hg) (takes_of rfl rfl rfl rfl)).1
    exact ⟨z, pt_of z fun _ => rfl⟩
theorem peA (fx : Facts Ω fsp lv) (tl : TellOk Ω N lv tsp) : ∀ (es : Es) (sc : Sk), wfs Ω.Γ N sc es = true → ∀ (X : Cx) (W : WX), Good Ω N sc lv X → Takes X W → PA X (ups Ω.Γ N es) (rdA Ω.P Ω.w Ω.K Ω.Γ Ω.gv fsp tsp es W)
  | .nil, sc, h, X, W, g, tk => by simp only [ups, rdA]; exact pa_nil
  | .cons e es, sc, h, X, W, g, tk => by
    simp only [wfs, Bool.and_eq_true] at h
    simp only [ups, rdA]
    exact pa_cons (peE fx tl e sc h.1 X W g tk).1 (peA fx tl es sc h.2 X W g tk) (star_up _ _ _)
theorem peK (fx : Facts Ω fsp lv) (tl : TellOk Ω N lv tsp) : ∀ (ks : List (Str × Pos)) (es : Es) (sc : Sk), wfs Ω.Γ N sc es = true → ∀ (X : Cx) (W : WX), Good Ω N sc lv X → Takes X W → ks.length = elen es → PKs X ((ks.zip (ups Ω.Γ N es)).map fun x => ⟨some x.1.1, x.2, x.1.2⟩) (ks.map (·.1)) (rdA Ω.P Ω.w Ω.K Ω.Γ Ω.gv fsp tsp es W)
  | [], .nil, sc, h, X, W, g, tk, hl => by simp only [ups, rdA]; exact ⟨pk_nil, fun _ => rfl, fun _ => rfl, fun _ => rfl⟩
  | k :: ks, .cons e es, sc, h, X, W, g, tk, hl => by
    simp only [wfs, Bool.and_eq_true] at h
    obtain ⟨r1, r2, r3, r4⟩ := peK fx tl ks es sc h.2 X W g tk (by simpa [elen] using hl)
    simp only [ups, rdA, List.zip_cons_cons, List.map_cons]
    exact PKs.cons (peE fx tl e sc h.1 X W g tk).1 ⟨r1, r2, r3, r4⟩
  | [], .cons e es, sc, h, X, W, g, tk, hl => by simp [elen] at hl
  | k :: ks, .nil, sc, h, X, W, g, tk, hl => by simp [elen] at hl
theorem peL (fx : Facts Ω fsp lv) (tl : TellOk Ω N lv tsp) : ∀ (es : Es) (sc : Sk), wfs Ω.Γ N sc es = true → ∀ (X : Cx) (W : WX), Good Ω N sc lv X → Takes X W → PLs X (ups Ω.Γ N es) (rdL Ω.P Ω.w Ω.K Ω.Γ Ω.gv fsp tsp es W)
  | .nil, sc, h, X, W, g, tk => by simp only [ups, rdL]; exact True.intro
  | .cons e es, sc, h, X, W, g, tk => by
    simp only [wfs, Bool.and_eq_true] at h
    simp only [ups, rdL]
    exact ⟨(peE fx tl e sc h.1 X W g tk).1, peL fx tl es sc h.2 X W g tk⟩
theorem peB (fx : Facts Ω fsp lv) (tl : TellOk Ω N lv tsp) (op : BoolOp) : ∀ (es : Es) (sc : Sk), wfB Ω.Γ N sc es = true → ∀ (X : Cx) (W : WX), Good Ω N sc lv X → Takes X W → ∀ p : Pos,
    PE X (.BoolOp op (ups Ω.Γ N es) p) (rdB Ω.P Ω.w Ω.K Ω.Γ Ω.gv fsp tsp op es W).1 ∧ PW X (.BoolOp op (ups Ω.Γ N es) p) (rdB Ω.P Ω.w Ω.K Ω.Γ Ω.gv fsp tsp op es W).2
  | .nil, sc, h, X, W, g, tk, p => by simp [wfB] at h
  | .cons e .nil, sc, h, X, W, g, tk, p => by
    simp only [wfB] at h
    obtain ⟨z1, z2⟩ := peE fx tl e sc h X W g tk
    simp only [ups, rdB]
    cases op with
    | And => exact ⟨pe_one z1, pw_and1 z2⟩
    | Or => exact ⟨pe_one z1, pw_or1 z2⟩
  | .cons e (.cons e2 es), sc, h, X, W, g, tk, p => by
    simp only [wfB, Bool.and_eq_true] at h
    obtain ⟨z1, z2⟩ := peE fx tl e sc h.1 X W g tk
    obtain ⟨y1, y2⟩ := peB fx tl op (.cons e2 es) sc (by simpa only [wfB] using h.2) X W g tk p
    simp only [ups] at y1 y2 ⊢
    cases op with
    | And => simp only [rdB]; exact ⟨pe_and z1 y1, pw_and z2 y2⟩
    | Or => simp only [rdB]; exact ⟨pe_or z1 y1, pw_or z2 y2⟩
theorem peC (fx : Facts Ω fsp lv) (tl : TellOk Ω N lv tsp) : ∀ (es : Es) (sc : Sk), wfC Ω.Γ N sc es = true → ∀ (X : Cx) (W : WX), Good Ω N sc lv X → Takes X W → PTs X (ups Ω.Γ N es) (rdC Ω.P Ω.w Ω.K Ω.Γ Ω.gv fsp tsp es W)
  | .nil, sc, h, X, W, g, tk => by simp only [ups, rdC]; exact pts_nil
  | .cons e .nil, sc, h, X, W, g, tk => by
    simp only [wfC] at h
    simp only [ups, rdC]
    exact pts_one (peE fx tl e sc h X W g tk).2
  | .cons e (.cons e2 es), sc, h, X, W, g, tk => by simp [wfC] at h
theorem peO (fx : Facts Ω fsp lv) (tl : TellOk Ω N lv tsp) : ∀ (o : Option E) (sc : Sk), wfO Ω.Γ N sc o = true → ∀ (X : Cx) (W : WX), Good Ω N sc lv X → Takes X W → PO X (upo Ω.Γ N o) (rdO Ω.P Ω.w Ω.K Ω.Γ Ω.gv fsp tsp o W)
  | none, sc, h, X, W, g, tk => by simp only [upo, rdO]; exact po_none
  | some e, sc, h, X, W, g, tk => by
    simp only [wfO] at h
    simp only [upo, rdO]
    exact po_some (peE fx tl e sc h X W g tk).1
theorem peP (fx : Facts Ω fsp lv) (tl : TellOk Ω N lv tsp) : ∀ (ps : Ps) (sc : Sk), wfP Ω.Γ N sc ps = true → ∀ (X : Cx) (W : WX), Good Ω N sc lv X → Takes X W → ∀ p : Pos, PPs X p (upk Ω.Γ N ps) (upv Ω.Γ N ps) (rdP Ω.P Ω.w Ω.K Ω.Γ Ω.gv fsp tsp ps W) ∧
    (upk Ω.Γ N ps).all (·.isSome) = true ∧ (upk Ω.Γ N ps).length = plen ps ∧ (upv Ω.Γ N ps).length = plen ps
  | .nil, sc, h, X, W, g, tk, p => by simp only [upk, upv, rdP]; exact ⟨pps_nil, rfl, rfl, rfl⟩
  | .cons k v ps, sc, h, X, W, g, tk, p => by
    simp only [wfP, Bool.and_eq_true] at h
    obtain ⟨r1, r2, r3, r4⟩ := peP fx tl ps sc h.2 X W g tk p
    simp only [upk, upv, rdP]
    exact ⟨pps_cons (peE fx tl k sc h.1.1 X W g tk).1 (peE fx tl v sc h.1.2 X W g tk).1 r1, by simp only [List.all_cons, r2]; rfl, by simp only [List.length_cons, r3, plen], by simp only [List.length_cons, r4, plen]⟩
theorem peI (fx : Facts Ω fsp lv) (tl : TellOk Ω N lv tsp) : ∀ (it : It) (sc : Sk), wfI Ω.Γ N sc it = true → ∀ (X : Cx) (W : WX), Good Ω N sc lv X → Takes X W → ∀ tg : Expr, PI X tg (upi Ω.Γ N it) (rdI Ω.P Ω.w Ω.K Ω.Γ Ω.gv fsp tsp it W)
  | .seq e, sc, h, X, W, g, tk, tg => by
    simp only [wfI] at h
    simp only [upi, rdI]
    exact iseq_ok g (peE fx tl e sc h X W g tk).1
  | .rng1 q e p, sc, h, X, W, g, tk, tg => by
    simp only [wfI, Bool.and_eq_true] at h
    obtain ⟨gl, db⟩ := g.gl h.2
    simp only [upi, rdI]
    exact pi_range1 gl (by rw [g.mg]; exact fx.rng) (pa_cons (peE fx tl e sc h.1 X W g tk).1 pa_nil (star_up _ _ _)) (star_up _ _ _)
  | .rng2 q a b p, sc, h, X, W, g, tk, tg => by
    simp only [wfI, Bool.and_eq_true] at h
    obtain ⟨gl, db⟩ := g.gl h.2
    simp only [upi, rdI]
    exact pi_range2 gl (by rw [g.mg]; exact fx.rng) (pa_cons (peE fx tl a sc h.1.1 X W g tk).1 (pa_cons (peE fx tl b sc h.1.2 X W g tk).1 pa_nil (star_up _ _ _)) (star_up _ _ _)) (by rw [star_up, star_up]; rfl) (star_up _ _ _)
end
end
end Mn

-- Mn6
set_option Elab.async false
set_option linter.all false
set_option maxRecDepth 100000
set_option autoImplicit false
namespace Mn
open PySem PySem.Spec L2

/-! ## what is evaluated comes about -/
section
variable {K : PySem.W.Frag} {T : List (Addr × Str)} {δ δ0 δ1 δ' : List Sl} {σ : L2.St} {G H G0 H0 G1 H1 : Hp} {p : Addr} {o : HO}
theorem same_new (e : Same G H) (hp : H p = none) : Same G (upd H p o) := fun b u q => by
  rw [upd_ne (ne_of_none (e b u q) hp)]
  exact e b u q
theorem same_new2 (hp : H p = none) : Same H (upd H p o) := same_new (Same.refl H) hp
theorem same_upd2 (e : Same G H) : Same (upd G p o) (upd H p o) := fun b u q => by
  by_cases hb : b = p
  · rw [hb, upd_same] at q ⊢
    exact q
  · rw [upd_ne hb] at q ⊢
    exact e b u q
theorem Rel.gfree (R : Rel K T δ σ G H) (hp : H p = none) : G p = none := R.sub.free hp
/-- a new thing is laid -/
theorem Rel.laid (R : Rel K T δ σ G H) (hp : H p = none) : Rel K T δ σ G (upd H p o) :=
  ⟨R.len, same_new R.sub hp, R.ntb, R.tab.ext (same_new2 hp), R.val, fun i xs h => by
    obtain ⟨a, vs, h1, h2, h3, h4⟩ := R.own i xs h
    exact ⟨a, vs, h1, same_new2 hp _ _ h2, h3, h4⟩, R.sep⟩
theorem GoE.laid (hp : H p = none) : GoE δ δ σ G H G (upd H p o) :=
  ⟨⟨Same.refl G, fun b u h _ _ => same_new2 hp _ _ h, fun b u h => ⟨u, same_new2 hp _ _ h⟩, fun b u h => .inl h, fun b h => .inl h⟩, fun _ xs h => ⟨xs, h⟩, fun _ _ h => h, fun _ _ h => .inl h.1⟩
/-- a new thing is laid that stays -/
theorem Rel.laidG (R : Rel K T δ σ G H) (hp : H p = none) (ho : ∀ ps, o ≠ .tbl ps) : Rel K T δ σ (upd G p o) (upd H p o) :=
  ⟨R.len, same_upd2 R.sub, fun b ps h => by
    by_cases hb : b = p
    · rw [hb, upd_same] at h
      exact ho ps (Option.some.inj h)
    · rw [upd_ne hb] at h
      exact R.ntb b ps h, R.tab.ext (same_new2 hp), fun i d h => by
    obtain ⟨v, h1, h2⟩ := R.val i d h
    exact ⟨v, h1, h2.mono (same_new2 (R.gfree hp))⟩, fun i xs h => by
    obtain ⟨a, vs, h1, h2, h3, h4⟩ := R.own i xs h
    exact ⟨a, vs, h1, same_new2 hp _ _ h2, by rw [upd_ne (ne_of_none h2 hp)]; exact h3, h4.mono (same_new2 (R.gfree hp))⟩, R.sep⟩
theorem GoE.laidG (R : Rel K T δ σ G H) (hp : H p = none) : GoE δ δ σ G H (upd G p o) (upd H p o) :=
  ⟨⟨same_new2 (R.gfree hp), fun b u h _ _ => same_new2 hp _ _ h, fun b u h => ⟨u, same_new2 hp _ _ h⟩, fun b u h => by
    by_cases hb : b = p
    · rw [hb]
      exact .inr (.inl hp)
    · rw [upd_ne hb] at h
      exact .inl h, fun b h => .inl h⟩, fun _ xs h => ⟨xs, h⟩, fun _ _ h => h, fun _ _ h => .inl h.1⟩
end

/-! ### what is given becomes a value that stays -/
def NewA (r : R) (v : V) (a : Addr) : Prop := (∃ xs, r = .new xs) ∧ v = .ref a
section
variable {K : PySem.W.Frag} {T : List (Addr × Str)} {δ δ0 δ1 δ' : List Sl} {σ : L2.St} {G H G0 H0 G1 H1 : Hp} {v : V} {d : D} {r : R}
theorem frz_ok (R0 : Rel K T δ0 σ G0 H0) (g0 : GoE δ0 δ σ G0 H0 G H) (R : Rel K T δ σ G H) (h : RV K G H σ H0 v r) (e : frz δ r = some (d, δ')) :
    ∃ G', Rel K T δ' σ G' H ∧ GoE δ0 δ' σ G0 H0 G' H ∧ Den K G' v d ∧ Same G G' ∧ (∀ b o, G' b = some o → G b = some o ∨ NewA r v b ∨ Own δ0 σ b) := by
  cases r with
  | val d' =>
    cases e
    exact ⟨G, R, g0, h, Same.refl G, fun _ _ q => .inl q⟩
  | new xs =>
    cases e
    obtain ⟨a, vs, rfl, h1, h2, h3, h4⟩ := h
    have no : ¬ Own δ σ a := fun z => by
      obtain ⟨o, q⟩ := R0.live (g0.sub z)
      rw [h3] at q
      cases q
    have sG : Same G (upd G a (.lst vs)) := same_new2 h2
    have nu : ∀ b o, upd G a (.lst vs) b = some o → b ≠ a → G b = some o := fun b o q hb => by
      rw [upd_ne hb] at q
      exact q
    refine ⟨upd G a (.lst vs), ⟨R.len, fun b o q => ?_, fun b ps q => ?_, R.tab, fun i d q => ?_, fun i xs q => ?_, R.sep⟩, ⟨⟨g0.go.ex.trans sG, g0.go.keep, g0.go.live, fun b o q => ?_, g0.go.grow⟩, g0.less, g0.lock, fun i x h => (g0.fate i x h).imp id fun ⟨o, z⟩ => ⟨o, sG _ _ z⟩⟩, .lst upd_same (h4.mono sG), sG, fun b o q => ?_⟩
    · by_cases hb : b = a
      · rw [hb, upd_same] at q
        rw [hb, h1]
        exact q
      · exact R.sub b o (nu b o q hb)
    · by_cases hb : b = a
      · rw [hb, upd_same] at q
        cases q
      · exact R.ntb b ps (nu b _ q hb)
    · obtain ⟨w, q1, q2⟩ := R.val i d q
      exact ⟨w, q1, q2.mono sG⟩
    · obtain ⟨c, ws, q1, q2, q3, q4⟩ := R.own i xs q
      have nc : c ≠ a := fun z => no ⟨i, ⟨xs, q⟩, by rw [← z]; exact q1⟩
      exact ⟨c, ws, q1, q2, by rw [upd_ne nc]; exact q3, q4.mono sG⟩
    · by_cases hb : b = a
      · rw [hb]
        exact .inr (.inl h3)
      · exact g0.go.new b o (nu b o q hb)
    · by_cases hb : b = a
      · rw [hb]
        exact .inr (.inl ⟨⟨xs, rfl⟩, rfl⟩)
      · exact .inl (nu b o q hb)
  | bor i =>
    have h : σ[i]? = some (some v) := h
    unfold frz at e
    dsimp only at e
    split at e
    · rename_i d' q
      cases e
      obtain ⟨w, q1, q2⟩ := R.val i _ q
      rw [h] at q1
      cases q1
      exact ⟨G, R, g0, q2, Same.refl G, fun _ _ q => .inl q⟩
    · rename_i xs qi
      cases e
      obtain ⟨a, vs, q1, h1, h2, h4⟩ := R.own i xs (.inl qi)
      rw [h] at q1
      cases q1
      have li : i < δ.length := by
        rcases Nat.lt_or_ge i δ.length with z | z
        · exact z
        · rw [List.getElem?_eq_none z] at qi
          cases qi
      have oa : Own δ σ a := ⟨i, ⟨xs, .inl qi⟩, h⟩
      have sG : Same G (upd G a (.lst vs)) := same_new2 h2
      have nu : ∀ b o, upd G a (.lst vs) b = some o → b ≠ a → G b = some o := fun b o q hb => by
        rw [upd_ne hb] at q
        exact q
      have owD : ∀ j ys, Ow (δ.set i (.val (.lst xs)))[j]? ys → j ≠ i ∧ Ow δ[j]? ys := fun j ys z => by
        by_cases hj : j = i
        · subst hj
          rw [List.getElem?_set_self li] at z
          rcases z with z | z <;> cases z
        · rw [List.getElem?_set_ne (Ne.symm hj)] at z
          exact ⟨hj, z⟩
      refine ⟨upd G a (.lst vs), ⟨by rw [List.length_set]; exact R.len, fun b o q => ?_, fun b ps q => ?_, R.tab, fun j d q => ?_, fun j ys q => ?_, fun j l b q1 q2 => ?_⟩, ⟨⟨g0.go.ex.trans sG, g0.go.keep, g0.go.live, fun b o q => ?_, fun b q => ?_⟩, fun j ys q => ?_, fun j ys q => ?_, fun j x hx => ?_⟩, .lst upd_same (h4.mono sG), sG, fun b o q => ?_⟩
      · by_cases hb : b = a
        · rw [hb, upd_same] at q
          rw [hb, h1]
          exact q
        · exact R.sub b o (nu b o q hb)
      · by_cases hb : b = a
        · rw [hb, upd_same] at q
          cases q
        · exact R.ntb b ps (nu b _ q hb)
      · by_cases hj : j = i
        · subst hj
          rw [List.getElem?_set_self li] at q
          cases q
          exact ⟨_, h, .lst upd_same (h4.mono sG)⟩
        · rw [List.getElem?_set_ne (Ne.symm hj)] at q
          obtain ⟨w, q1, q2⟩ := R.val j d q
          exact ⟨w, q1, q2.mono sG⟩
      · obtain ⟨hj, z⟩ := owD j ys q
        obtain ⟨c, ws, q1, q2, q3, q4⟩ := R.own j ys z
        have nc : c ≠ a := fun y => hj (R.sep j i a ⟨⟨ys, z⟩, by rw [← y]; exact q1⟩ ⟨⟨xs, .inl qi⟩, h⟩)
        exact ⟨c, ws, q1, q2, by rw [upd_ne nc]; exact q3, q4.mono sG⟩
      · obtain ⟨⟨ys, z1⟩, e1⟩ := q1
        obtain ⟨⟨zs, z2⟩, e2⟩ := q2
        exact R.sep j l b ⟨⟨ys, (owD j ys z1).2⟩, e1⟩ ⟨⟨zs, (owD l zs z2).2⟩, e2⟩
      · by_cases hb : b = a
        · rw [hb]
          exact .inr (.inr (g0.sub oa))
        · exact g0.go.new b o (nu b o q hb)
      · obtain ⟨j, ⟨ys, z⟩, e1⟩ := q
        exact g0.go.grow b ⟨j, ⟨ys, (owD j ys z).2⟩, e1⟩
      · exact g0.less j ys (owD j ys q).2
      · have z := g0.lock j ys q
        have hj : j ≠ i := fun y => by
          subst y
          rw [z] at qi
          cases qi
        rw [List.getElem?_set_ne (Ne.symm hj)]
        exact z
      · by_cases hj : j = i
        · subst hj
          have e1 := hx.2
          rw [h] at e1
          cases e1
          exact .inr ⟨_, upd_same⟩
        · rcases g0.fate j x hx with ⟨ys, z⟩ | ⟨o, z⟩
          · exact .inl ⟨ys, by rw [List.getElem?_set_ne (Ne.symm hj)]; exact z⟩
          · exact .inr ⟨o, sG _ _ z⟩
      · by_cases hb : b = a
        · rw [hb]
          exact .inr (.inr (g0.sub oa))
        · exact .inl (nu b o q hb)
    · cases e
end
end Mn

-- Mn7
set_option Elab.async false
set_option linter.all false
set_option maxRecDepth 100000
set_option autoImplicit false
namespace Mn
open PySem PySem.Spec L2

/-! ### several operands -/
inductive Sees (K : PySem.W.Frag) (G H : Hp) : List V → List D → Prop
  | nil : Sees K G H [] []
  | cons {v : V} {vs : List V} {d : D} {ds : List D} : See K G H v d → Sees K G H vs ds → Sees K G H (v :: vs) (d :: ds)
inductive RVs (K : PySem.W.Frag) (G H : Hp) (σ : L2.St) (H0 : Hp) : List V → List R → Prop
  | nil : RVs K G H σ H0 [] []
  | cons {v : V} {vs : List V} {r : R} {rs : List R} : RV K G H σ H0 v r → RVs K G H σ H0 vs rs → (∀ (a : Addr) (i : Nat) (v' : V) (r' : R), NewA r v a → vs[i]? = some v' → rs[i]? = some r' → ¬ NewA r' v' a) → RVs K G H σ H0 (v :: vs) (r :: rs)
section
variable {K : PySem.W.Frag} {T : List (Addr × Str)} {δ δ0 δ1 δ2 δ' : List Sl} {σ : L2.St} {G H G0 H0 G1 H1 G2 H2 : Hp}
theorem RVs.len {vs : List V} {rs : List R} (h : RVs K G H σ H0 vs rs) : vs.length = rs.length := by
  induction h with
  | nil => rfl
  | cons _ _ _ ih => rw [List.length_cons, List.length_cons, ih]
theorem RVs.at {vs : List V} {rs : List R} (h : RVs K G H σ H0 vs rs) : ∀ (i : Nat) (r : R), rs[i]? = some r → ∃ v, vs[i]? = some v ∧ RV K G H σ H0 v r := by
  induction h with
  | nil => intro i r e; simp at e
  | cons h1 _ _ ih =>
    intro i r e
    cases i with
    | zero => simp at e; subst e; exact ⟨_, rfl, h1⟩
    | succ i => obtain ⟨v, q1, q2⟩ := ih i r (by simpa using e); exact ⟨v, by simpa using q1, q2⟩
theorem RVs.ne {vs : List V} {rs : List R} (h : RVs K G H σ H0 vs rs) : ∀ (i j : Nat) (r r' : R) (v v' : V) (a : Addr), rs[i]? = some r → rs[j]? = some r' → vs[i]? = some v → vs[j]? = some v' → NewA r v a → NewA r' v' a → i = j := by
  induction h with
  | nil => intro i j r r' v v' a e; simp at e
  | cons h1 _ hd ih =>
    intro i j r r' v v' a e1 e2 f1 f2 n1 n2
    cases i with
    | zero =>
      cases j with
      | zero => rfl
      | succ j =>
        simp at e1 f1
        subst e1 f1
        exact absurd n2 (hd a j v' r' n1 (by simpa using f2) (by simpa using e2))
    | succ i =>
      cases j with
      | zero =>
        simp at e2 f2
        subst e2 f2
        exact absurd n1 (hd a i v r n2 (by simpa using f1) (by simpa using e1))
      | succ j => rw [ih i j r r' v v' a (by simpa using e1) (by simpa using e2) (by simpa using f1) (by simpa using f2) n1 n2]
theorem RVs.back {vs : List V} {rs : List R} (h : RVs K G H σ H1 vs rs) (a : GoE δ δ1 σ G0 H0 G1 H1) : RVs K G H σ H0 vs rs := by
  induction h with
  | nil => exact .nil
  | cons h1 _ hd ih => exact .cons (h1.back a) ih hd
theorem RVs.stay {vs : List V} {rs : List R} (h : RVs K G1 H1 σ H vs rs) (R0 : Rel K T δ σ G H) (a : GoE δ δ1 σ G H G1 H1) (b : GoE δ1 δ2 σ G1 H1 G2 H2) : RVs K G2 H2 σ H vs rs := by
  induction h with
  | nil => exact .nil
  | cons h1 _ hd ih => exact .cons (h1.stay R0 a b) ih hd
/-- what is new came up behind the first -/
theorem RVs.later {v : V} {r : R} {vs : List V} {rs : List R} (hv : RV K G1 H1 σ H0 v r) (h : RVs K G2 H2 σ H1 vs rs) : ∀ (a : Addr) (i : Nat) (v' : V) (r' : R), NewA r v a → vs[i]? = some v' → rs[i]? = some r' → ¬ NewA r' v' a := by
  rintro a i v' r' ⟨⟨xs, rfl⟩, rfl⟩ e1 e2 ⟨⟨ys, rfl⟩, rfl⟩
  obtain ⟨w, q1, b, ws, q2, q3, q4, q5, _⟩ := h.at i _ e2
  rw [e1] at q1
  cases q1
  cases q2
  obtain ⟨c, zs, z1, z2, _⟩ := hv
  cases z1
  rw [q5] at z2
  cases z2
theorem frzs_ok (R0 : Rel K T δ0 σ G0 H0) : ∀ {rs : List R} {vs : List V} {ds : List D} {δ δ' : List Sl} {G : Hp}, GoE δ0 δ σ G0 H0 G H → Rel K T δ σ G H → RVs K G H σ H0 vs rs → frzs δ rs = some (ds, δ') →
    ∃ G', Rel K T δ' σ G' H ∧ GoE δ0 δ' σ G0 H0 G' H ∧ DenL K G' vs ds ∧ Same G G'
  | [], _, _, δ, δ', G, g0, Rl, .nil, e => by
    cases e
    exact ⟨G, Rl, g0, .nil, Same.refl G⟩
  | r :: rs, _, ds, δ, δ', G, g0, Rl, .cons (v := v) (vs := vs) h1 h2 hd, e => by
    unfold frzs at e
    split at e
    · rename_i d δ1 q1
      split at e
      · rename_i ds' δ2 q2
        cases e
        obtain ⟨G1, R1, g1, n1, s1, c1⟩ := frz_ok R0 g0 Rl h1 q1
        have h2' : RVs K G1 H σ H0 vs rs := by
          have key : ∀ {vs' : List V} {rs' : List R}, RVs K G H σ H0 vs' rs' → (∀ (a : Addr) (i : Nat) (v' : V) (r' : R), NewA r v a → vs'[i]? = some v' → rs'[i]? = some r' → ¬ NewA r' v' a) → RVs K G1 H σ H0 vs' rs' := by
            intro vs' rs' h
            induction h with
            | nil => intro _; exact .nil
            | @cons w ws t ts k1 _ kd ih =>
              intro hd'
              refine .cons ?_ (ih fun a i v' r' n z1 z2 => hd' a (i + 1) v' r' n (by simpa using z1) (by simpa using z2)) kd
              cases t with
              | val d => exact Den.mono s1 k1
              | bor i => exact k1
              | new xs =>
                obtain ⟨a, us, rfl, y1, y2, y3, y4⟩ := k1
                refine ⟨a, us, rfl, y1, ?_, y3, y4.mono s1⟩
                cases q : G1 a with
                | none => rfl
                | some o =>
                  rcases c1 a o q with z | z | z
                  · rw [y2] at z; cases z
                  · exact absurd ⟨⟨xs, rfl⟩, rfl⟩ (hd' a 0 _ _ z rfl rfl)
                  · obtain ⟨o', z'⟩ := R0.live z
                    rw [y3] at z'
                    cases z'
          exact key h2 hd
        obtain ⟨G2, R2, g2, n2, s2⟩ := frzs_ok R0 g1 R1 h2' q2
        exact ⟨G2, R2, g2, .cons (n1.mono s2) n2, s1.trans s2⟩
      · cases e
    · cases e
theorem sees_ok {δ : List Sl} (Rl : Rel K T δ σ G H) : ∀ {rs : List R} {vs : List V} {ds : List D}, RVs K G H σ H0 vs rs → sees δ rs = some ds → Sees K G H vs ds
  | [], _, _, .nil, e => by cases e; exact .nil
  | r :: rs, _, _, .cons h1 h2 _, e => by
    unfold sees at e
    split at e
    · rename_i d ds' q1 q2
      cases e
      exact .cons (h1.see Rl q1) (sees_ok Rl h2 q2)
    · cases e
end
end Mn

-- Mn8
set_option Elab.async false
set_option linter.all false
set_option maxRecDepth 100000
set_option autoImplicit false
namespace Mn
open PySem PySem.Spec L2

/-! ### a def called -/
section
variable (Ω : Wd)
/-- what is wanted behind a call -/
def PostF (as : List Sl) (vs : List V) (G H : Hp) (Q : VK) (E : XK) : CO → Prop
  | .ret r ps => ∀ v G' H', Rel Ω.K Ω.T ps (vs.map some) G' H' → GoE as ps (vs.map some) G H G' H' → RV Ω.K G' H' [] H v r.r → Q v H'
  | .exc c d ps => ∀ v x G' H', Rel Ω.K Ω.T ps (vs.map some) G' H' → GoE as ps (vs.map some) G H G' H' → H' x = some (.xd [("value", v)]) → Den Ω.K G' v d → E (.ref (Ω.ca c)) (some x) H'
def SpF (run : List Sl → Option CO) : Sp := fun vs H Q E => ∃ as G co, run as = some co ∧ Rel Ω.K Ω.T as (vs.map some) G H ∧ PostF Ω as vs G H Q E co
/-- what is wanted behind an expression -/
def PostE (W : WX) (σ : L2.St) (δ : List Sl) (G H : Hp) (Q : VK) : EO → Prop
  | .ok r δ' => ∀ v G' H', Rel Ω.K Ω.T δ' σ G' H' → GoE δ δ' σ G H G' H' → RV Ω.K G' H' σ H v r → Q v H'
  | .exc c d δ' => ∀ v x G' H', Rel Ω.K Ω.T δ' σ G' H' → GoE δ δ' σ G H G' H' → H' x = some (.xd [("value", v)]) → Den Ω.K G' v d → W (.ref (Ω.ca c)) (some x) σ H'
end

theorem argSls_at {δ : List Sl} : ∀ {rs : List R} {as : List Sl}, argSls δ rs = some as → as.length = rs.length ∧ ∀ (i : Nat) (r : R), rs[i]? = some r → ∃ s, as[i]? = some s ∧ argSl δ r = some s
  | [], _, e => by cases e; exact ⟨rfl, fun i r q => by simp at q⟩
  | r :: rs, as, e => by
    unfold argSls at e
    split at e
    · rename_i s ss q1 q2
      cases e
      obtain ⟨l, h⟩ := argSls_at q2
      refine ⟨by rw [List.length_cons, List.length_cons, l], fun i t q => ?_⟩
      cases i with
      | zero => simp at q; subst q; exact ⟨s, rfl, q1⟩
      | succ i => obtain ⟨s', z1, z2⟩ := h i t (by simpa using q); exact ⟨s', by simpa using z1, z2⟩
    · cases e
theorem bors_mem {i j : Nat} : ∀ {rs : List R}, rs[i]? = some (.bor j) → j ∈ bors rs := by
  intro rs
  induction rs generalizing i with
  | nil => intro e; simp at e
  | cons r rs ih =>
    intro e
    cases i with
    | zero => simp at e; subst e; exact List.mem_cons_self
    | succ i =>
      have z := ih (i := i) (by simpa using e)
      cases r with
      | bor k => exact List.mem_cons_of_mem _ z
      | val d => exact z
      | new xs => exact z
theorem wb_len : ∀ (rs : List R) (ps δ : List Sl), (wb δ rs ps).length = δ.length
  | [], ps, δ => by simp [wb]
  | r :: rs, [], δ => by cases r <;> simp [wb]
  | .bor i :: rs, s :: ps, δ => by simp only [wb]; rw [wb_len rs ps, List.length_set]
  | .val d :: rs, s :: ps, δ => by simp only [wb]; exact wb_len rs ps δ
  | .new d :: rs, s :: ps, δ => by simp only [wb]; exact wb_len rs ps δ
theorem wb_no {j : Nat} : ∀ (rs : List R) (ps δ : List Sl), j ∉ bors rs → (wb δ rs ps)[j]? = δ[j]?
  | [], ps, δ, _ => by simp [wb]
  | r :: rs, [], δ, _ => by cases r <;> simp [wb]
  | .bor i :: rs, s :: ps, δ, h => by
    simp only [bors, List.mem_cons, not_or] at h
    simp only [wb]
    rw [wb_no rs ps _ h.2, List.getElem?_set_ne (Ne.symm h.1)]
  | .val d :: rs, s :: ps, δ, h => by simp only [wb]; exact wb_no rs ps δ (by simpa [bors] using h)
  | .new d :: rs, s :: ps, δ, h => by simp only [wb]; exact wb_no rs ps δ (by simpa [bors] using h)
theorem wb_at {j : Nat} : ∀ (rs : List R) (ps δ : List Sl) (i : Nat), (bors rs).Nodup → rs.length = ps.length → rs[i]? = some (.bor j) → j < δ.length → (wb δ rs ps)[j]? = ps[i]?
  | [], ps, δ, i, _, _, e, _ => by simp at e
  | r :: rs, [], δ, i, _, l, _, _ => by simp at l
  | r :: rs, s :: ps, δ, 0, nd, l, e, hj => by
    simp at e
    subst e
    simp only [bors, List.nodup_cons] at nd
    simp only [wb]
    rw [wb_no rs ps _ nd.1, List.getElem?_set_self hj] <;> rfl
  | r :: rs, s :: ps, δ, i + 1, nd, l, e, hj => by
    have l' : rs.length = ps.length := by simpa using l
    have e' : rs[i]? = some (.bor j) := by simpa using e
    cases r with
    | bor k =>
      simp only [bors, List.nodup_cons] at nd
      simp only [wb]
      rw [wb_at rs ps _ i nd.2 l' e' (by rw [List.length_set]; exact hj)] <;> rfl
    | val d => simp only [wb]; rw [wb_at rs ps δ i (by simpa [bors] using nd) l' e' hj] <;> rfl
    | new d => simp only [wb]; rw [wb_at rs ps δ i (by simpa [bors] using nd) l' e' hj] <;> rfl
theorem bors_at {j : Nat} : ∀ {rs : List R}, j ∈ bors rs → ∃ i : Nat, rs[i]? = some (.bor j)
  | [], h => by simp [bors] at h
  | .bor k :: rs, h => by
    simp only [bors, List.mem_cons] at h
    rcases h with h | h
    · exact ⟨0, by simp [h]⟩
    · obtain ⟨i, e⟩ := bors_at h
      exact ⟨i + 1, by simpa using e⟩
  | .val d :: rs, h => by
    obtain ⟨i, e⟩ := bors_at (rs := rs) (by simpa [bors] using h)
    exact ⟨i + 1, by simpa using e⟩
  | .new d :: rs, h => by
    obtain ⟨i, e⟩ := bors_at (rs := rs) (by simpa [bors] using h)
    exact ⟨i + 1, by simpa using e⟩
theorem bors_inj {j : Nat} : ∀ {rs : List R} {i l : Nat}, (bors rs).Nodup → rs[i]? = some (.bor j) → rs[l]? = some (.bor j) → i = l
  | [], i, l, _, e, _ => by simp at e
  | r :: rs, 0, 0, _, _, _ => rfl
  | r :: rs, 0, l + 1, nd, e1, e2 => by
    simp at e1
    subst e1
    simp only [bors, List.nodup_cons] at nd
    exact absurd (bors_mem (i := l) (by simpa using e2)) nd.1
  | r :: rs, i + 1, 0, nd, e1, e2 => by
    simp at e2
    subst e2
    simp only [bors, List.nodup_cons] at nd
    exact absurd (bors_mem (i := i) (by simpa using e1)) nd.1
  | r :: rs, i + 1, l + 1, nd, e1, e2 => by
    have nd' : (bors rs).Nodup := by
      cases r with
      | bor k => simp only [bors, List.nodup_cons] at nd; exact nd.2
      | val d => simpa [bors] using nd
      | new d => simpa [bors] using nd
    rw [bors_inj (i := i) (l := l) nd' (by simpa using e1) (by simpa using e2)]

section
variable {K : PySem.W.Frag} {T : List (Addr × Str)} {δ δ0 : List Sl} {σ : L2.St} {G H G0 H0 : Hp} {vs : List V} {rs : List R} {as ps : List Sl}
theorem lt_of_ow {xs : List D} {i : Nat} (h : Ow δ[i]? xs) : i < δ.length := by
  rcases Nat.lt_or_ge i δ.length with z | z
  · exact z
  · rw [List.getElem?_eq_none z] at h
    rcases h with h | h <;> cases h
/-- an own argument: new, or the caller's slot's -/
theorem arg_own (Rl : Rel K T δ σ G H) (h : RVs K G H σ H0 vs rs) (ea : argSls δ rs = some as) {i : Nat} {xs : List D} (hi : Ow as[i]? xs) :
    ∃ r v, rs[i]? = some r ∧ vs[i]? = some v ∧ ((r = .new xs ∧ ∃ a ws, v = .ref a ∧ H a = some (.lst ws) ∧ G a = none ∧ H0 a = none ∧ DenL K G ws xs) ∨ ∃ j, r = .bor j ∧ σ[j]? = some (some v) ∧ δ[j]? = as[i]?) := by
  obtain ⟨l, ha⟩ := argSls_at ea
  have li : i < rs.length := by rw [← l]; exact lt_of_ow hi
  obtain ⟨s, q1, q2⟩ := ha i rs[i] (List.getElem?_eq_getElem li)
  obtain ⟨v, q3, q4⟩ := h.at i rs[i] (List.getElem?_eq_getElem li)
  refine ⟨rs[i], v, List.getElem?_eq_getElem li, q3, ?_⟩
  generalize rs[i] = r at q2 q4
  rw [q1] at hi
  cases r with
  | val d =>
    cases q2
    rcases hi with z | z <;> cases z
  | new ys =>
    cases q2
    obtain rfl : ys = xs := by
      rcases hi with z | z
      · exact Sl.own.inj (Option.some.inj z)
      · cases z
    obtain ⟨a, ws, z1, z2, z3, z4, z5⟩ := q4
    exact .inl ⟨rfl, a, ws, z1, z2, z3, z4, z5⟩
  | bor j =>
    refine .inr ⟨j, rfl, q4, ?_⟩
    rw [q1]
    unfold argSl at q2
    dsimp only at q2
    split at q2 <;> first | (rename_i q; rw [q]; exact q2) | cases q2
theorem arg_rel (R0 : Rel K T δ0 σ G0 H0) (g0 : GoE δ0 δ σ G0 H0 G H) (Rl : Rel K T δ σ G H) (h : RVs K G H σ H0 vs rs) (ea : argSls δ rs = some as) (nd : (bors rs).Nodup) : Rel K T as (vs.map some) G H := by
  obtain ⟨l, ha⟩ := argSls_at ea
  have lv : vs.length = as.length := by rw [h.len, l]
  refine ⟨by rw [List.length_map]; exact lv, Rl.sub, Rl.ntb, Rl.tab, fun i d hi => ?_, fun i xs hi => ?_, fun i j a hi hj => ?_⟩
  · have li : i < rs.length := by
      rw [← l]
      rcases Nat.lt_or_ge i as.length with z | z
      · exact z
      · rw [List.getElem?_eq_none z] at hi
        cases hi
    obtain ⟨s, q1, q2⟩ := ha i rs[i] (List.getElem?_eq_getElem li)
    obtain ⟨v, q3, q4⟩ := h.at i rs[i] (List.getElem?_eq_getElem li)
    generalize rs[i] = r at q2 q4
    rw [hi] at q1
    cases q1
    refine ⟨v, by rw [List.getElem?_map, q3]; rfl, ?_⟩
    cases r with
    | val d' =>
      cases q2
      exact q4
    | new ys => cases q2
    | bor j =>
      have q4 : σ[j]? = some (some v) := q4
      unfold argSl at q2
      dsimp only at q2
      split at q2
      · rename_i d' q
        cases q2
        obtain ⟨w, z1, z2⟩ := Rl.val j _ q
        rw [q4] at z1
        cases z1
        exact z2
      · cases q2
      · cases q2
      · cases q2
  · obtain ⟨r, v, q1, q2, q3⟩ := arg_own Rl h ea hi
    rcases q3 with ⟨rfl, a, ws, rfl, z2, z3, z4, z5⟩ | ⟨j, rfl, z1, z2⟩
    · exact ⟨a, ws, by rw [List.getElem?_map, q2]; rfl, z2, z3, z5⟩
    · rw [← z2] at hi
      obtain ⟨a, ws, y1, y2, y3, y4⟩ := Rl.own j xs hi
      rw [z1] at y1
      cases y1
      exact ⟨a, ws, by rw [List.getElem?_map, q2]; rfl, y2, y3, y4⟩
  · obtain ⟨⟨xs, oi⟩, ei⟩ := hi
    obtain ⟨⟨ys, oj⟩, ej⟩ := hj
    obtain ⟨r, v, q1, q2, q3⟩ := arg_own Rl h ea oi
    obtain ⟨r', v', p1, p2, p3⟩ := arg_own Rl h ea oj
    rw [List.getElem?_map, q2] at ei
    rw [List.getElem?_map, p2] at ej
    cases ei
    cases ej
    rcases q3 with ⟨rfl, b, ws, z1, z2, z3, z4, z5⟩ | ⟨k, rfl, z1, z2⟩
    · cases z1
      rcases p3 with ⟨rfl, b', ws', y1, y2, y3, y4, y5⟩ | ⟨k', rfl, y1, y2⟩
      · exact h.ne i j _ _ _ _ a q1 p1 q2 p2 ⟨⟨xs, rfl⟩, rfl⟩ ⟨⟨ys, rfl⟩, rfl⟩
      · rw [← y2] at oj
        obtain ⟨o, q⟩ := R0.live (g0.sub ⟨k', ⟨ys, oj⟩, y1⟩)
        rw [z4] at q
        cases q
    · rw [← z2] at oi
      rcases p3 with ⟨rfl, b', ws', y1, y2, y3, y4, y5⟩ | ⟨k', rfl, y1, y2⟩
      · cases y1
        obtain ⟨o, q⟩ := R0.live (g0.sub ⟨k, ⟨xs, oi⟩, z1⟩)
        rw [y4] at q
        cases q
      · rw [← y2] at oj
        have e := Rl.sep k k' a ⟨⟨xs, oi⟩, z1⟩ ⟨⟨ys, oj⟩, y1⟩
        subst e
        exact bors_inj nd q1 p1
/-- what may be changed by the callee -/
theorem arg_sub (Rl : Rel K T δ σ G H) (h : RVs K G H σ H0 vs rs) (ea : argSls δ rs = some as) {a : Addr} (o : Own as (vs.map some) a) : (∃ i j : Nat, rs[i]? = some (R.bor j) ∧ OwnAt δ σ j a) ∨ H0 a = none := by
  obtain ⟨i, ⟨xs, oi⟩, ei⟩ := o
  obtain ⟨r, v, q1, q2, q3⟩ := arg_own Rl h ea oi
  rw [List.getElem?_map, q2] at ei
  cases ei
  rcases q3 with ⟨rfl, b, ws, z1, z2, z3, z4, z5⟩ | ⟨k, rfl, z1, z2⟩
  · cases z1
    exact .inr z4
  · rw [← z2] at oi
    exact .inl ⟨i, k, q1, ⟨xs, oi⟩, z1⟩
/-- behind the call -/
theorem wb_ok {G' H' : Hp} (R0 : Rel K T δ0 σ G0 H0) (g0 : GoE δ0 δ σ G0 H0 G H) (Rl : Rel K T δ σ G H) (h : RVs K G H σ H0 vs rs) (ea : argSls δ rs = some as) (nd : (bors rs).Nodup)
    (Rp : Rel K T ps (vs.map some) G' H') (gp : GoE as ps (vs.map some) G H G' H') : Rel K T (wb δ rs ps) σ G' H' ∧ GoE δ0 (wb δ rs ps) σ G0 H0 G' H' := by
  obtain ⟨l, ha⟩ := argSls_at ea
  have lp : rs.length = ps.length := by
    have := Rp.len
    rw [List.length_map] at this
    rw [← this, h.len]
  have sl : ∀ (j : Nat) (s : Sl), (wb δ rs ps)[j]? = some s → (∃ i : Nat, rs[i]? = some (R.bor j) ∧ ps[i]? = some s) ∨ (j ∉ bors rs ∧ δ[j]? = some s) := fun j s e => by
    by_cases hj : j ∈ bors rs
    · obtain ⟨i, q⟩ := bors_at hj
      have hl : j < δ.length := by
        rw [← wb_len rs ps δ]
        rcases Nat.lt_or_ge j (wb δ rs ps).length with z | z
        · exact z
        · rw [List.getElem?_eq_none z] at e
          cases e
      rw [wb_at rs ps δ i nd lp q hl] at e
      exact .inl ⟨i, q, e⟩
    · rw [wb_no rs ps δ hj] at e
      exact .inr ⟨hj, e⟩
  have vat : ∀ i j : Nat, rs[i]? = some (R.bor j) → ∃ v, vs[i]? = some v ∧ σ[j]? = some (some v) := fun i j e => by
    obtain ⟨v, q1, q2⟩ := h.at i _ e
    exact ⟨v, q1, q2⟩
  -- a slot of one's own that the callee did not get
  have kept : ∀ (j : Nat) (xs : List D) (a : Addr), j ∉ bors rs → Ow δ[j]? xs → σ[j]? = some (some (.ref a)) → ¬ Own as (vs.map some) a := fun j xs a hj o e z => by
    rcases arg_sub Rl h ea z with ⟨i, k, q1, q2⟩ | q
    · have e2 := Rl.sep k j a q2 ⟨⟨xs, o⟩, e⟩
      subst e2
      exact hj (bors_mem q1)
    · obtain ⟨o', q'⟩ := R0.live (g0.sub ⟨j, ⟨xs, o⟩, e⟩)
      rw [q] at q'
      cases q'
  have oww : ∀ (j : Nat) (xs : List D), Ow (wb δ rs ps)[j]? xs → (∃ i : Nat, rs[i]? = some (R.bor j) ∧ Ow ps[i]? xs) ∨ (j ∉ bors rs ∧ Ow δ[j]? xs) := fun j xs o => by
    rcases o with o | o
    · rcases sl j _ o with ⟨i, q1, q2⟩ | ⟨q1, q2⟩
      · exact .inl ⟨i, q1, .inl q2⟩
      · exact .inr ⟨q1, .inl q2⟩
    · rcases sl j _ o with ⟨i, q1, q2⟩ | ⟨q1, q2⟩
      · exact .inl ⟨i, q1, .inr q2⟩
      · exact .inr ⟨q1, .inr q2⟩
  -- the callee's own slot is the caller's
  have back : ∀ (i j : Nat) (xs : List D), rs[i]? = some (R.bor j) → Ow ps[i]? xs → ∃ ys, Ow δ[j]? ys := fun i j xs q o => by
    obtain ⟨ys, z⟩ := gp.less i xs o
    obtain ⟨r, v, q1, q2, q3⟩ := arg_own Rl h ea z
    rw [q] at q1
    cases q1
    rcases q3 with ⟨e, _⟩ | ⟨k, e, z1, z2⟩
    · cases e
    · cases e
      exact ⟨ys, by rw [z2]; exact z⟩
  have atW : ∀ (i j : Nat) (a : Addr) (xs : List D), rs[i]? = some (R.bor j) → Ow ps[i]? xs → σ[j]? = some (some (.ref a)) → OwnAt ps (vs.map some) i a := fun i j a xs q o e => by
    obtain ⟨v, q1, q2⟩ := vat i j q
    rw [q2] at e
    cases e
    exact ⟨⟨xs, o⟩, by rw [List.getElem?_map, q1]; rfl⟩
  refine ⟨⟨by rw [wb_len]; exact Rl.len, Rp.sub, Rp.ntb, Rp.tab, fun j d e => ?_, fun j xs o => ?_, fun j k a oj ok => ?_⟩, ⟨⟨g0.go.ex.trans gp.go.ex, fun b o q n t => ?_, fun b o q => ?_, fun b o q => ?_, fun b z => ?_⟩, fun j xs o => ?_, fun j xs e => ?_, fun j x hx => ?_⟩⟩
  · rcases sl j _ e with ⟨i, q1, q2⟩ | ⟨q1, q2⟩
    · obtain ⟨v, z1, z2⟩ := vat i j q1
      obtain ⟨w, y1, y2⟩ := Rp.val i d q2
      rw [List.getElem?_map, z1] at y1
      cases y1
      exact ⟨_, z2, y2⟩
    · obtain ⟨v, z1, z2⟩ := Rl.val j d q2
      exact ⟨v, z1, z2.mono gp.go.ex⟩
  · rcases oww j xs o with ⟨i, q1, q2⟩ | ⟨q1, q2⟩
    · obtain ⟨v, z1, z2⟩ := vat i j q1
      obtain ⟨a, ws, y1, y2, y3, y4⟩ := Rp.own i xs q2
      rw [List.getElem?_map, z1] at y1
      cases y1
      exact ⟨a, ws, z2, y2, y3, y4⟩
    · obtain ⟨a, ws, y1, y2, y3, y4⟩ := Rl.own j xs q2
      have no := kept j xs a q1 q2 y1
      refine ⟨a, ws, y1, gp.go.keep a _ y2 no (fun ps z => by cases z), ?_, y4.mono gp.go.ex⟩
      cases q : G' a with
      | none => rfl
      | some u =>
        rcases gp.go.new a u q with z | z | z
        · rw [y3] at z; cases z
        · rw [y2] at z; cases z
        · exact absurd z no
  · obtain ⟨⟨xs, oj⟩, ej⟩ := oj
    obtain ⟨⟨ys, ok⟩, ek⟩ := ok
    rcases oww j xs oj with ⟨i, q1, q2⟩ | ⟨q1, q2⟩
    · obtain ⟨zs, z⟩ := back i j xs q1 q2
      rcases oww k ys ok with ⟨i', p1, p2⟩ | ⟨p1, p2⟩
      · obtain ⟨zs', z'⟩ := back i' k ys p1 p2
        exact Rl.sep j k a ⟨⟨zs, z⟩, ej⟩ ⟨⟨zs', z'⟩, ek⟩
      · exact Rl.sep j k a ⟨⟨zs, z⟩, ej⟩ ⟨⟨ys, p2⟩, ek⟩
    · rcases oww k ys ok with ⟨i', p1, p2⟩ | ⟨p1, p2⟩
      · obtain ⟨zs', z'⟩ := back i' k ys p1 p2
        exact Rl.sep j k a ⟨⟨xs, q2⟩, ej⟩ ⟨⟨zs', z'⟩, ek⟩
      · exact Rl.sep j k a ⟨⟨xs, q2⟩, ej⟩ ⟨⟨ys, p2⟩, ek⟩
  · refine gp.go.keep b o (g0.go.keep b o q n t) (fun z => ?_) t
    rcases arg_sub Rl h ea z with ⟨i, k, q1, q2⟩ | q'
    · exact n (g0.sub ⟨k, q2⟩)
    · rw [q] at q'
      cases q'
  · obtain ⟨o1, e1⟩ := g0.go.live b o q
    exact gp.go.live b o1 e1
  · rcases gp.go.new b o q with z | z | z
    · exact g0.go.new b o z
    · exact .inr (.inl (g0.go.back z))
    · rcases arg_sub Rl h ea z with ⟨i, k, q1, q2⟩ | q'
      · exact .inr (.inr (g0.sub ⟨k, q2⟩))
      · exact .inr (.inl q')
  · obtain ⟨j, ⟨xs, o⟩, e⟩ := z
    rcases oww j xs o with ⟨i, q1, q2⟩ | ⟨q1, q2⟩
    · obtain ⟨ys, z⟩ := back i j xs q1 q2
      exact .inl (g0.sub ⟨j, ⟨ys, z⟩, e⟩)
    · exact .inl (g0.sub ⟨j, ⟨xs, q2⟩, e⟩)
  · rcases oww j xs o with ⟨i, q1, q2⟩ | ⟨q1, q2⟩
    · obtain ⟨ys, z⟩ := back i j xs q1 q2
      exact g0.less j ys z
    · exact g0.less j xs q2
  · have e1 := g0.lock j xs e
    by_cases hj : j ∈ bors rs
    · obtain ⟨i, q⟩ := bors_at hj
      rw [wb_at rs ps δ i nd lp q (lt_of_ow (.inr e1))]
      have li : i < rs.length := by
        rcases Nat.lt_or_ge i rs.length with z | z
        · exact z
        · rw [List.getElem?_eq_none z] at q
          cases q
      obtain ⟨s, z1, z2⟩ := ha i _ q
      refine gp.lock i xs ?_
      rw [z1]
      unfold argSl at z2
      simp only [e1] at z2
      exact z2.symm
    · rw [wb_no rs ps δ hj]
      exact e1
  · rcases g0.fate j x hx with ⟨ys, z⟩ | ⟨o, z⟩
    · by_cases hj : j ∈ bors rs
      · obtain ⟨i, q⟩ := bors_at hj
        rw [wb_at rs ps δ i nd lp q (lt_of_ow z)]
        obtain ⟨s, z1, z2⟩ := ha i _ q
        obtain ⟨v, y1, y2⟩ := vat i j q
        have ev : v = .ref x := by
          have := hx.2
          rw [y2] at this
          cases this
          rfl
        have os : Ow as[i]? ys := by
          rw [z1]
          unfold argSl at z2
          rcases z with z | z
          · simp only [z] at z2
            exact .inl z2.symm
          · simp only [z] at z2
            exact .inr z2.symm
        exact gp.fate i x ⟨⟨ys, os⟩, by rw [List.getElem?_map, y1, ev]; rfl⟩
      · exact .inl ⟨ys, by rw [wb_no rs ps δ hj]; exact z⟩
    · exact .inr ⟨o, gp.go.ex _ _ z⟩
end
end Mn

-- Mn9
set_option Elab.async false
set_option linter.all false
set_option maxRecDepth 100000
set_option autoImplicit false
namespace Mn
open PySem PySem.Spec L2

/-! ### the operations -/
theorem big_le : big ≤ sizeLine := by decide
theorem le_big {n : Nat} (h : n ≤ big) : n ≤ sizeLine := Nat.le_trans h big_le
theorem lt_big {n : Nat} (h : n < big) : n < sizeLine := Nat.lt_of_lt_of_le h big_le
section
variable {K : PySem.W.Frag} {G H : Hp} {v : V} {d : D}
mutual
theorem Den.dp (s : Same G H) : ∀ {v : V} {d : D}, Den K G v d → d.eqOk = true → Dp K H v d.py
  | _, _, .non, _ => by simp only [D.py]; exact .non
  | _, _, .bl b, _ => by simp only [D.py]; exact .bl b
  | _, _, .int i, _ => by simp only [D.py]; exact .int i
  | _, _, .str x, _ => by simp only [D.py]; exact .str x
  | _, _, .lst h t, e => by simp only [D.py]; exact .lst (.inl (.inl (s _ _ h))) (DenL.dp s t (by simpa [D.eqOk] using e))
  | _, _, .rol h t, e => by simp only [D.py]; exact .lst (sqL_mono s h) (DenL.dp s t (by simpa [D.eqOk] using e))
  | _, _, .tup h t, e => by simp only [D.py]; exact .tup (sqT_mono s h) (DenL.dp s t (by simpa [D.eqOk] using e))
  | _, _, .dct h t, e => by simp [D.eqOk] at e
  | _, _, .obj h _ t, e => by simp [D.eqOk] at e
theorem DenL.dp (s : Same G H) : ∀ {vs : List V} {ds : List D}, DenL K G vs ds → eqOks ds = true → DpAll K H vs (pys ds)
  | _, _, .nil, _ => by simp only [pys]; exact .nil
  | _, _, .cons h t, e => by
    simp only [eqOks, Bool.and_eq_true] at e
    simp only [pys]
    exact .cons (Den.dp s h e.1) (DenL.dp s t e.2)
end
theorem See.dp (s : Same G H) (h : See K G H v d) (e : d.eqOk = true) : Dp K H v d.py := by
  rcases h with h | ⟨a, vs, xs, rfl, rfl, h1, h2⟩
  · exact h.dp s e
  · simp only [D.py]
    exact .lst (.inl (.inl h1)) (h2.dp s (by simpa [D.eqOk] using e))
theorem Den.flat_eq {w : V} (h : Den K G v d) (e : d.flat = some w) : v = w ∧ flatV w = true := by
  cases h <;> first | (cases e; done) | (cases e; exact ⟨rfl, rfl⟩)
theorem See.flat_eq {w : V} (h : See K G H v d) (e : d.flat = some w) : v = w ∧ flatV w = true := by
  rcases h with h | ⟨a, vs, xs, rfl, rfl, h1, h2⟩
  · exact h.flat_eq e
  · cases e
theorem DenL.flats_eq : ∀ {vs : List V} {ds : List D} {ws : List V}, DenL K G vs ds → flats ds = some ws → vs = ws ∧ ws.all flatV = true
  | _, _, _, .nil, e => by cases e; exact ⟨rfl, rfl⟩
  | _, _, _, .cons h t, e => by
    unfold flats at e
    split at e
    · rename_i w ws q1 q2
      cases e
      obtain ⟨rfl, f1⟩ := h.flat_eq q1
      obtain ⟨rfl, f2⟩ := t.flats_eq q2
      exact ⟨rfl, by rw [List.all_cons, f1, f2] <;> rfl⟩
    · cases e
theorem DenL.ints_eq : ∀ {vs : List V} {ds : List D} {ns : List Int}, DenL K G vs ds → asInts ds = some ns → vs = ns.map V.int
  | _, _, _, .nil, e => by cases e; rfl
  | _, _, _, .cons h t, e => by
    cases h <;> simp only [asInts] at e <;> first | (cases e; done) | skip
    rename_i i
    obtain ⟨ms, q1, q2⟩ := Option.map_eq_some_iff.mp e
    subst q2
    rw [t.ints_eq q1] <;> rfl
theorem DenL.bls_eq : ∀ {vs : List V} {ds : List D} {ns : List Bool}, DenL K G vs ds → asBls ds = some ns → vs = ns.map V.bl
  | _, _, _, .nil, e => by cases e; rfl
  | _, _, _, .cons h t, e => by
    cases h <;> simp only [asBls] at e <;> first | (cases e; done) | skip
    rename_i i
    obtain ⟨ms, q1, q2⟩ := Option.map_eq_some_iff.mp e
    subst q2
    rw [t.bls_eq q1] <;> rfl
theorem DenL.rep {vs : List V} {ds : List D} (h : DenL K G vs ds) : ∀ n : Nat, DenL K G (List.replicate n vs).flatten (List.replicate n ds).flatten
  | 0 => .nil
  | n + 1 => by
    rw [List.replicate_succ, List.replicate_succ, List.flatten_cons, List.flatten_cons]
    exact h.append (h.rep n)
theorem DenL.atI_eq {vs : List V} {ds : List D} {i : Int} (h : DenL K G vs ds) (e : atI ds i = some d) : ∃ v, atI vs i = some v ∧ Den K G v d := by
  unfold atI at e ⊢
  obtain ⟨j, q1, q2⟩ := Option.bind_eq_some_iff.mp e
  obtain ⟨v, z1, z2⟩ := h.get q2
  exact ⟨v, by rw [h.length, q1]; exact z1, z2⟩
end
theorem maxI_mem : ∀ (x : Int) (r : List Int), maxI (x :: r) ∈ x :: r ∧ ∀ y ∈ x :: r, y ≤ maxI (x :: r)
  | x, [] => by simp [maxI]
  | x, y :: r => by
    obtain ⟨h1, h2⟩ := maxI_mem y r
    simp only [maxI]
    split
    · rename_i c
      refine ⟨List.mem_cons_of_mem _ h1, fun z hz => ?_⟩
      rcases List.mem_cons.mp hz with e | e
      · rw [e]; omega
      · exact h2 z e
    · rename_i c
      refine ⟨List.mem_cons_self, fun z hz => ?_⟩
      rcases List.mem_cons.mp hz with e | e
      · rw [e]; omega
      · have := h2 z e; omega
theorem minI_mem : ∀ (x : Int) (r : List Int), minI (x :: r) ∈ x :: r ∧ ∀ y ∈ x :: r, minI (x :: r) ≤ y
  | x, [] => by simp [minI]
  | x, y :: r => by
    obtain ⟨h1, h2⟩ := minI_mem y r
    simp only [minI]
    split
    · rename_i c
      refine ⟨List.mem_cons_of_mem _ h1, fun z hz => ?_⟩
      rcases List.mem_cons.mp hz with e | e
      · rw [e]; omega
      · exact h2 z e
    · rename_i c
      refine ⟨List.mem_cons_self, fun z hz => ?_⟩
      rcases List.mem_cons.mp hz with e | e
      · rw [e]; omega
      · have := h2 z e; omega

section
variable {K : PySem.W.Frag} {T : List (Addr × Str)} {δ : List Sl} {σ : L2.St} {G H : Hp} {x y : V} {dx dy : D} {Q : VK}
/-- what an operation may go on to -/
abbrev Nxt (K : PySem.W.Frag) (T : List (Addr × Str)) (δ : List Sl) (σ : L2.St) (G H : Hp) (Q : VK) (r : RD) : Prop := ∀ v G' H', Rel K T δ σ G' H' → GoE δ δ σ G H G' H' → RV K G' H' σ H v r.r → Q v H'
theorem nxt_val {v : V} {d : D} (R : Rel K T δ σ G H) (q : Nxt K T δ σ G H Q (.val d)) (h : Den K G v d) : Q v H := q v G H R GoE.refl h
theorem nxt_new {xs : List D} {vs : List V} {p : Addr} (R : Rel K T δ σ G H) (q : Nxt K T δ σ G H Q (.new xs)) (h : DenL K G vs xs) (hp : H p = none) : Q (.ref p) (upd H p (.lst vs)) :=
  q _ G _ (R.laid hp) (GoE.laid hp) ⟨p, vs, rfl, upd_same, R.gfree hp, hp, h⟩
theorem nxt_tup {xs : List D} {vs : List V} {p : Addr} (R : Rel K T δ σ G H) (q : Nxt K T δ σ G H Q (.val (.tup xs))) (h : DenL K G vs xs) (hp : H p = none) : Q (.ref p) (upd H p (.tup vs)) :=
  q _ _ _ (R.laidG hp (fun ps z => by cases z)) (GoE.laidG R hp) (Den.tup (.inl (.inl upd_same)) (h.mono (same_new2 (R.gfree hp))))
theorem bin_ok {op : Operator} {r : RD} (R : Rel K T δ σ G H) (hx : See K G H x dx) (hy : See K G H y dy) (e : binD op dx dy = some r) (q : Nxt K T δ σ G H Q r) : rBin op x y H Q := by
  unfold binD at e
  split at e
  · cases e
    exact .inl ⟨_, _, hx.int, hy.int, nxt_val R q (.int _)⟩
  · split at e
    · rename_i c
      cases e
      exact .inr (.inl ⟨_, _, hx.str, hy.str, le_big c, nxt_val R q (.str _)⟩)
    · cases e
  · split at e
    · rename_i c
      cases e
      obtain ⟨a, vs, e1, h1, n1⟩ := hx.lst R.sub
      obtain ⟨b, ws, e2, h2, n2⟩ := hy.lst R.sub
      exact .inr (.inr ⟨a, b, vs, ws, e1, e2, h1, h2, by rw [n1.length, n2.length]; exact le_big c, fun p hp => nxt_new R q (n1.append n2) hp⟩)
    · cases e
  · cases e
    exact ⟨_, _, hx.int, hy.int, nxt_val R q (.int _)⟩
  · split at e
    · rename_i c
      cases e
      exact .inl ⟨_, _, hx.int, hy.int, c, nxt_val R q (.int _)⟩
    · cases e
  · split at e
    · rename_i c
      cases e
      obtain ⟨a, vs, e1, h1, n1⟩ := hx.lst R.sub
      exact .inr ⟨a, _, vs, e1, hy.int, h1, by omega, by omega, by rw [n1.length]; exact le_big c.2.2, fun p hp => nxt_new R q (n1.rep _) hp⟩
    · cases e
  · split at e
    · rename_i c
      cases e
      exact ⟨_, _, hx.int, hy.int, c, nxt_val R q (.int _)⟩
    · cases e
  · split at e
    · rename_i c
      cases e
      exact ⟨_, _, hx.int, hy.int, c, nxt_val R q (.int _)⟩
    · cases e
  · split at e
    · rename_i c
      cases e
      exact ⟨_, _, hx.int, hy.int, c, nxt_val R q (.int _)⟩
    · cases e
  · cases e
theorem in_ok {ys : List D} {b neg : Bool} (hx : See K G H x dx) (hy : ∃ a vs, y = .ref a ∧ (SqL K H a vs ∨ SqT K H a vs) ∧ DenL K G vs ys) (e : inD dx ys = some b) (q : Q (.bl (if neg then !b else b)) H) : rIn K neg x y H Q := by
  unfold inD at e
  split at e
  · rename_i w ws q1 q2
    cases e
    obtain ⟨a, vs, rfl, h1, h2⟩ := hy
    obtain ⟨rfl, f1⟩ := hx.flat_eq q1
    obtain ⟨rfl, f2⟩ := h2.flats_eq q2
    exact ⟨a, vs, rfl, h1, f1, f2, q⟩
  · cases e
theorem eq_ok {b : Bool} (s : Same G H) (hx : See K G H x dx) (hy : See K G H y dy) (e : eqD dx dy = some b) : ∃ d1 d2, Dp K H x d1 ∧ Dp K H y d2 ∧ SeqAt.shaped d1 = true ∧ SeqAt.shaped d2 = true ∧ PyData.eqv d1 d2 = b := by
  unfold eqD at e
  split at e
  · rename_i c
    simp only [Bool.and_eq_true] at c
    obtain ⟨⟨⟨c1, c2⟩, c3⟩, c4⟩ := c
    exact ⟨_, _, hx.dp s c1, hy.dp s c2, c3, c4, Option.some.inj e⟩
  · cases e
theorem cmp_ok {op : CmpOp} {b : Bool} (R : Rel K T δ σ G H) (hx : See K G H x dx) (hy : See K G H y dy) (e : cmpD op dx dy = some b) (q : Q (.bl b) H) : rCmp K op x y H Q := by
  unfold cmpD at e
  split at e
  · cases e; exact ⟨_, _, hx.int, hy.int, q⟩
  · cases e; exact ⟨_, _, hx.int, hy.int, q⟩
  · cases e; exact ⟨_, _, hx.int, hy.int, q⟩
  · cases e; exact ⟨_, _, hx.int, hy.int, q⟩
  · obtain ⟨d1, d2, h1, h2, h3, h4, rfl⟩ := eq_ok R.sub hx hy e
    exact ⟨d1, d2, h1, h2, h3, h4, q⟩
  · obtain ⟨c, e1, e2⟩ := Option.map_eq_some_iff.mp e
    obtain ⟨d1, d2, h1, h2, h3, h4, rfl⟩ := eq_ok R.sub hx hy e1
    subst e2
    exact ⟨d1, d2, h1, h2, h3, h4, q⟩
  · obtain ⟨a, vs, e1, h1, h2⟩ := hy.seqL R.sub
    exact in_ok (neg := false) hx ⟨a, vs, e1, .inl h1, h2⟩ e q
  · obtain ⟨a, vs, e1, h1, h2⟩ := hy.tup R.sub
    exact in_ok (neg := false) hx ⟨a, vs, e1, .inr h1, h2⟩ e q
  · obtain ⟨c, e1, e2⟩ := Option.map_eq_some_iff.mp e
    subst e2
    obtain ⟨a, vs, e3, h1, h2⟩ := hy.seqL R.sub
    exact in_ok (neg := true) hx ⟨a, vs, e3, .inl h1, h2⟩ e1 q
  · obtain ⟨c, e1, e2⟩ := Option.map_eq_some_iff.mp e
    subst e2
    obtain ⟨a, vs, e3, h1, h2⟩ := hy.tup R.sub
    exact in_ok (neg := true) hx ⟨a, vs, e3, .inr h1, h2⟩ e1 q
  · cases e; exact .inl ⟨_, _, hx.bl, hy.bl, q⟩
  · cases e; rw [hx.non]; exact .inr ⟨hy.non, q⟩
  · cases e; rw [hx.bl]; exact .inr ⟨hy.non, q⟩
  · cases e; rw [hx.int]; exact .inr ⟨hy.non, q⟩
  · cases e; rw [hx.str]; exact .inr ⟨hy.non, q⟩
  · cases e
    obtain ⟨a, vs, e1, h1, h2⟩ := hx.lst R.sub
    rw [e1]
    exact .inr ⟨hy.non, q⟩
  · cases e
theorem DenK.find {K : PySem.W.Frag} {G : Hp} {k : Key} : ∀ {vs : List (Key × V)} {ds : List (Key × D)}, DenK K G vs ds → (∀ kv, (ds.find? fun p => decide (p.1 = k)) = some kv → ∃ v, valV vs k = some v ∧ Den K G v kv.2) ∧ ((ds.find? fun p => decide (p.1 = k)) = none → valV vs k = none)
  | _, _, .nil => ⟨fun kv e => by simp at e, fun _ => rfl⟩
  | _, _, .cons (k := k') (v := v) (d := d) h t => by
    obtain ⟨i1, i2⟩ := t.find (k := k)
    unfold valV at i1 i2 ⊢
    by_cases c : k' = k
    · subst c
      simp only [List.find?_cons, decide_true]
      exact ⟨fun kv e => by cases e; exact ⟨v, rfl, h⟩, fun e => by cases e⟩
    · simp only [List.find?_cons, decide_eq_false c]
      exact ⟨i1, i2⟩
theorem key_eq {K : PySem.W.Frag} {G H : Hp} {v : V} {d : D} {k : Key} (h : See K G H v d) (e : keyD d = some k) : v = kV k := by
  cases d <;> first | (cases e; done) | skip
  · cases e; exact h.int
  · cases e; exact h.str
theorem ix_ok {d : D} (R : Rel K T δ σ G H) (hx : See K G H x dx) (hy : See K G H y dy) (e : ixD dx dy = some d) (q : ∀ v, Den K G v d → Q v H) : rIxA K x y H Q := by
  unfold ixD at e
  split at e
  · obtain ⟨a, vs, e1, h1, h2⟩ := hx.seqL R.sub
    obtain ⟨v, z1, z2⟩ := h2.atI_eq e
    exact .inl (.inl ⟨a, vs, _, v, e1, hy.int, h1, z1, q v z2⟩)
  · obtain ⟨a, vs, e1, h1, h2⟩ := hx.rol R.sub
    obtain ⟨v, z1, z2⟩ := h2.atI_eq e
    exact .inl (.inl ⟨a, vs, _, v, e1, hy.int, h1, z1, q v z2⟩)
  · obtain ⟨a, vs, e1, h1, h2⟩ := hx.tup R.sub
    obtain ⟨v, z1, z2⟩ := h2.atI_eq e
    exact .inl (.inr (.inl ⟨a, vs, _, v, e1, hy.int, h1, z1, q v z2⟩))
  · rename_i kvs
    obtain ⟨key, ek, e2⟩ := Option.bind_eq_some_iff.mp e
    obtain ⟨kv, ef, e3⟩ := Option.map_eq_some_iff.mp e2
    subst e3
    obtain ⟨a, vs, e1, h1, h2⟩ := hx.dct R.sub
    obtain ⟨v, z1, z2⟩ := (h2.find (k := key)).1 kv ef
    refine .inr ⟨a, v, e1, ?_, q v z2⟩
    rw [← z1, key_eq hy ek]
    exact DGet.k h1
  · split at e
    · rename_i c
      obtain ⟨k, z1, z2⟩ := Option.map_eq_some_iff.mp e
      subst z2
      exact .inl (.inr (.inr ⟨_, _, k, hx.str, hy.int, le_big c, z1, q _ (.str _)⟩))
    · cases e
  · cases e
theorem DenL.cut {vs : List V} {ds : List D} (h : DenL K G vs ds) (lo hi : Option Int) : DenL K G (cutV vs lo hi) (cutD ds lo hi) := by
  unfold cutV cutD
  rw [h.length]
  exact (h.drop _).take _
theorem sl_ok {r : RD} {lo hi : Option Int} (R : Rel K T δ σ G H) (hx : See K G H x dx) (e : slD dx lo hi = some r) (q : Nxt K T δ σ G H Q r) : rSlL K x lo hi H Q := by
  unfold slD at e
  split at e
  · cases e
    obtain ⟨a, vs, e1, h1, h2⟩ := hx.seqL R.sub
    exact ⟨a, vs, e1, h1, fun p hp => nxt_new R q (h2.cut lo hi) hp⟩
  · cases e
theorem ty_ok {n : String} (s : Same G H) (hx : See K G H x dx) (e : tyN dx = some n) : TyX K H x (.type n) := by
  cases dx with
  | non => cases e; rw [hx.non]; exact .base .non
  | bl b => cases e; rw [hx.bl]; exact .base (.bl b)
  | int i => cases e; rw [hx.int]; exact .base (.int i)
  | str z => cases e; rw [hx.str]; exact .base (.str z)
  | lst xs =>
    cases e
    obtain ⟨a, vs, e1, h1, h2⟩ := hx.lst s
    rw [e1]
    exact .base (.lst h1)
  | tup xs =>
    cases e
    obtain ⟨a, vs, e1, h1, h2⟩ := hx.tup s
    rw [e1]
    rcases h1 with (h1 | ⟨o, h1⟩) | ⟨o, its, n, hk, hc, _⟩
    · exact .base (.tup h1)
    · exact .fTuple h1
    · exact .kTuple hk hc
  | dct kvs =>
    cases e
    obtain ⟨a, vs, e1, h1, h2⟩ := hx.dct s
    rw [e1]
    exact .base (.dK h1)
  | rol xs => cases e
  | obj C fs => cases e
theorem isi_ok {t : String} {b : Bool} (s : Same G H) (hx : See K G H x dx) (e : isiD dx t = some b) (q : Q (.bl b) H) : rIsi K [x, .ty t] H Q := by
  unfold isiD at e
  obtain ⟨n, e1, e2⟩ := Option.bind_eq_some_iff.mp e
  exact ⟨x, .ty t, _, _, b, rfl, .ty t, ty_ok s hx e1, kit_ty e2, q⟩
theorem isis_ok {b : Bool} (s : Same G H) (hx : See K G H x dx) : ∀ {ts : List String}, isiDs dx ts = some b → ts ≠ [] → ∃ n, tyN dx = some n ∧ PySem.W.kitAny K (.type n) (ts.map Value.type) = some b
  | [], _, h => absurd rfl h
  | [t], e, _ => by
    unfold isiDs at e
    split at e
    · rename_i q
      obtain ⟨n, e1, e2⟩ := Option.bind_eq_some_iff.mp q
      cases e
      exact ⟨n, e1, kitAny_cons (kit_ty e2) (fun z => by cases z) fun _ => rfl⟩
    · rename_i q
      obtain ⟨n, e1, e2⟩ := Option.bind_eq_some_iff.mp q
      have e : some false = some b := e
      exact ⟨n, e1, kitAny_cons (kit_ty e2) (fun _ => e) fun z => by cases z⟩
    · cases e
  | t :: t2 :: ts, e, _ => by
    unfold isiDs at e
    split at e
    · rename_i q
      obtain ⟨n, e1, e2⟩ := Option.bind_eq_some_iff.mp q
      cases e
      exact ⟨n, e1, kitAny_cons (kit_ty e2) (fun z => by cases z) fun _ => rfl⟩
    · rename_i q
      obtain ⟨n, e1, e2⟩ := Option.bind_eq_some_iff.mp q
      obtain ⟨m, f1, f2⟩ := isis_ok s hx (ts := t2 :: ts) e (by simp)
      rw [e1] at f1
      cases f1
      exact ⟨n, e1, kitAny_cons (kit_ty e2) (fun _ => f2) fun z => by cases z⟩
    · cases e
theorem log_lt {i : Int} (h : -(10 ^ 100) < i ∧ i < 10 ^ 100) : i.natAbs.log2 < 1920 := by
  have h1 : i.natAbs < 2 ^ 1920 := by
    have : (10 : Int) ^ 100 < 2 ^ 1920 := by decide +kernel
    omega
  by_cases z : i.natAbs = 0
  · rw [z]; decide
  · exact (Nat.log2_lt z).mpr h1
theorem Sees.one {d : D} {vs : List V} (h : Sees K G H vs [d]) : ∃ v, vs = [v] ∧ See K G H v d := by
  cases h with
  | cons h t => cases t; exact ⟨_, rfl, h⟩
theorem Sees.two {d e : D} {vs : List V} (h : Sees K G H vs [d, e]) : ∃ v w, vs = [v, w] ∧ See K G H v d ∧ See K G H w e := by
  cases h with
  | cons h t =>
    obtain ⟨w, rfl, h2⟩ := t.one
    exact ⟨_, w, rfl, h, h2⟩
theorem bi_ok {b : Bi} {ds : List D} {vs : List V} {r : RD} (R : Rel K T δ σ G H) (h : Sees K G H vs ds) (e : biD b ds = some r) (q : Nxt K T δ σ G H Q r) : rBi K b vs H Q := by
  unfold biD at e
  split at e
  · cases e
    obtain ⟨v, rfl, hv⟩ := h.one
    obtain ⟨a, ws, rfl, h1, h2⟩ := hv.seqL R.sub
    exact ⟨a, ws, rfl, .inl h1, by rw [h2.length]; exact nxt_val R q (.int _)⟩
  · cases e
    obtain ⟨v, rfl, hv⟩ := h.one
    obtain ⟨a, ws, rfl, h1, h2⟩ := hv.rol R.sub
    exact ⟨a, ws, rfl, .inl h1, by rw [h2.length]; exact nxt_val R q (.int _)⟩
  · cases e
    obtain ⟨v, rfl, hv⟩ := h.one
    obtain ⟨a, ws, rfl, h1, h2⟩ := hv.tup R.sub
    exact ⟨a, ws, rfl, .inr h1, by rw [h2.length]; exact nxt_val R q (.int _)⟩
  · cases e
    obtain ⟨v, rfl, hv⟩ := h.one
    exact ⟨_, by rw [hv.int], nxt_val R q (.int _)⟩
  · cases e
    obtain ⟨v, w, rfl, hv, hw⟩ := h.two
    exact .inl ⟨_, _, by rw [hv.int, hw.int], nxt_val R q (.int _)⟩
  · cases e
    obtain ⟨v, w, rfl, hv, hw⟩ := h.two
    exact .inl ⟨_, _, by rw [hv.int, hw.int], nxt_val R q (.int _)⟩
  · split at e
    · rename_i n ns q1
      cases e
      obtain ⟨v, rfl, hv⟩ := h.one
      obtain ⟨a, ws, rfl, h1, h2⟩ := hv.seqL R.sub
      obtain rfl := h2.ints_eq q1
      refine .inr ⟨a, n :: ns, rfl, h1, by simp, fun m hm hle => ?_⟩
      obtain ⟨z1, z2⟩ := maxI_mem n ns
      have : m = maxI (n :: ns) := Int.le_antisymm (z2 m hm) (hle _ z1)
      rw [this]
      exact nxt_val R q (.int _)
    · cases e
  · split at e
    · rename_i n ns q1
      cases e
      obtain ⟨v, rfl, hv⟩ := h.one
      obtain ⟨a, ws, rfl, h1, h2⟩ := hv.seqL R.sub
      obtain rfl := h2.ints_eq q1
      refine .inr ⟨a, n :: ns, rfl, h1, by simp, fun m hm hle => ?_⟩
      obtain ⟨z1, z2⟩ := minI_mem n ns
      have : m = minI (n :: ns) := Int.le_antisymm (hle _ z1) (z2 m hm)
      rw [this]
      exact nxt_val R q (.int _)
    · cases e
  · cases e
    obtain ⟨v, rfl, hv⟩ := h.one
    exact .inl ⟨_, by rw [hv.int], nxt_val R q (.int _)⟩
  · cases e
    obtain ⟨v, rfl, hv⟩ := h.one
    exact .inr ⟨_, by rw [hv.bl], nxt_val R q (.int _)⟩
  · split at e
    · rename_i c
      cases e
      obtain ⟨v, w, rfl, hv, hw⟩ := h.two
      exact ⟨_, _, by rw [hv.int, hw.int], c, fun p hp => nxt_tup R q (.cons (.int _) (.cons (.int _) .nil)) hp⟩
    · cases e
  · rename_i d
    obtain ⟨c, e1, e2⟩ := Option.map_eq_some_iff.mp e
    subst e2
    obtain ⟨v, rfl, hv⟩ := h.one
    unfold shD at e1
    split at e1
    · rename_i c
      cases e1
      simp only [Bool.and_eq_true, decide_eq_true_eq] at c
      exact ⟨v, d, G, rfl, R.sub, hv, c.1.1.1, c.1.1.2, c.1.2, c.2, nxt_val R q (.str _)⟩
    · cases e1
  · cases e
    obtain ⟨v, rfl, hv⟩ := h.one
    exact .inl ⟨_, by rw [hv.str], nxt_val R q (.str _)⟩
  · split at e
    · rename_i c
      cases e
      obtain ⟨v, rfl, hv⟩ := h.one
      exact .inr ⟨_, by rw [hv.int], log_lt c, nxt_val R q (.str _)⟩
    · cases e
  · obtain ⟨bs, e1, e2⟩ := Option.map_eq_some_iff.mp e
    subst e2
    obtain ⟨v, rfl, hv⟩ := h.one
    obtain ⟨a, ws, rfl, h1, h2⟩ := hv.seqL R.sub
    obtain rfl := h2.bls_eq e1
    exact ⟨a, bs, rfl, h1, nxt_val R q (.bl _)⟩
  · obtain ⟨bs, e1, e2⟩ := Option.map_eq_some_iff.mp e
    subst e2
    obtain ⟨v, rfl, hv⟩ := h.one
    obtain ⟨a, ws, rfl, h1, h2⟩ := hv.seqL R.sub
    obtain rfl := h2.bls_eq e1
    exact ⟨a, bs, rfl, h1, nxt_val R q (.bl _)⟩
  · cases e
    obtain ⟨v, rfl, hv⟩ := h.one
    obtain ⟨a, ws, rfl, h1, h2⟩ := hv.seqL R.sub
    exact ⟨a, ws, rfl, .inl ⟨h1, fun l hl => nxt_tup R q h2 hl⟩⟩
  · cases e
    obtain ⟨v, rfl, hv⟩ := h.one
    obtain ⟨a, ws, rfl, h1, h2⟩ := hv.seqL R.sub
    exact ⟨a, ws, rfl, .inl h1, fun l hl => nxt_new R q h2 hl⟩
  · cases e
    obtain ⟨v, rfl, hv⟩ := h.one
    obtain ⟨a, ws, rfl, h1, h2⟩ := hv.tup R.sub
    exact ⟨a, ws, rfl, .inr h1, fun l hl => nxt_new R q h2 hl⟩
  · cases e
end
end Mn

-- Mn10
set_option Elab.async false
set_option linter.all false
set_option maxRecDepth 100000
set_option autoImplicit false
namespace Mn
open PySem PySem.Spec L2

/-! ## expressions -/
section
variable (Ω : Wd)
def SE (te : TE) (W : WX) (n : Nat) (δ : List Sl) (o : EO) : Prop := ∀ (σ : L2.St) (G H : Hp) (Q : VK), σ.length = n → Rel Ω.K Ω.T δ σ G H → PostE Ω W σ δ G H Q o → te σ H Q
def ST (tt : TT) (n : Nat) (δ : List Sl) (b : Bool) (δ' : List Sl) : Prop := ∀ (σ : L2.St) (G H : Hp) (Q : Bool → Hp → Prop), σ.length = n → Rel Ω.K Ω.T δ σ G H →
  (∀ G' H', Rel Ω.K Ω.T δ' σ G' H' → GoE δ δ' σ G H G' H' → Q b H') → tt σ H Q
def PostA (W : WX) (σ : L2.St) (δ : List Sl) (G H : Hp) (Q : List V → Hp → Prop) : EA → Prop
  | .ok rs δ' => ∀ vs G' H', Rel Ω.K Ω.T δ' σ G' H' → GoE δ δ' σ G H G' H' → RVs Ω.K G' H' σ H vs rs → Q vs H'
  | .exc c d δ' => ∀ v x G' H', Rel Ω.K Ω.T δ' σ G' H' → GoE δ δ' σ G H G' H' → H' x = some (.xd [("value", v)]) → Den Ω.K G' v d → W (.ref (Ω.ca c)) (some x) σ H'
def SA (ta : TA) (W : WX) (n : Nat) (δ : List Sl) (o : EA) : Prop := ∀ (σ : L2.St) (G H : Hp) (Q : List V → Hp → Prop), σ.length = n → Rel Ω.K Ω.T δ σ G H → PostA Ω W σ δ G H Q o → ta σ H Q
def SOp (to : TO) (n : Nat) (δ : List Sl) (b : Option Int) (δ' : List Sl) : Prop := ∀ (σ : L2.St) (G H : Hp) (Q : Option Int → Hp → Prop), σ.length = n → Rel Ω.K Ω.T δ σ G H →
  (∀ G' H', Rel Ω.K Ω.T δ' σ G' H' → GoE δ δ' σ G H G' H' → Q b H') → to σ H Q
end
section
variable {Ω : Wd} {W : WX} {n : Nat} {δ δ1 δ2 δ3 : List Sl} {ta tb te : TE} {ra rb r : R}
theorem se_two (ha : SE Ω ta W n δ (.ok ra δ1)) (hb : SE Ω tb W n δ1 (.ok rb δ2)) {σ : L2.St} {G H : Hp} {k : V → V → Hp → Prop} (hl : σ.length = n) (Rl : Rel Ω.K Ω.T δ σ G H)
    (hk : ∀ x y G' H', Rel Ω.K Ω.T δ2 σ G' H' → GoE δ δ2 σ G H G' H' → RV Ω.K G' H' σ H x ra → RV Ω.K G' H' σ H y rb → k x y H') : ta σ H fun x H1 => tb σ H1 fun y H2 => k x y H2 :=
  ha σ G H _ hl Rl fun x G1 H1 R1 g1 rx => hb σ G1 H1 _ hl R1 fun y G2 H2 R2 g2 ry => hk x y G2 H2 R2 (g1.trans g2) (rx.stay Rl g1 g2) (ry.back g1)
theorem se_op {ro : R2} {rr : R} (ha : SE Ω ta W n δ (.ok ra δ1)) (hb : SE Ω tb W n δ1 (.ok rb δ2)) {dx dy : D} (ex : ra.see δ2 = some dx) (ey : rb.see δ2 = some dy)
    (ho : ∀ (σ : L2.St) (G H : Hp) (x y : V) (Q : VK), Rel Ω.K Ω.T δ2 σ G H → See Ω.K G H x dx → See Ω.K G H y dy → (∀ v G' H', Rel Ω.K Ω.T δ2 σ G' H' → GoE δ2 δ2 σ G H G' H' → RV Ω.K G' H' σ H v rr → Q v H') → ro x y H Q) :
    SE Ω (tOp ro ta tb) W n δ (.ok rr δ2) := fun σ G H Q hl Rl post => se_two ha hb hl Rl fun x y G2 H2 R2 g2 rx ry =>
  ho _ G2 H2 x y Q R2 (rx.see R2 ex) (ry.see R2 ey) fun v G3 H3 R3 g3 rv => post v G3 H3 R3 (g2.trans g3) (rv.back g2)
theorem st_of (h : SE Ω te W n δ (.ok r δ1)) {b : Bool} (e : (r.see δ1).bind truD = some b) : ST Ω (tB te) n δ b δ1 := fun σ G H Q hl Rl post => h σ G H _ hl Rl fun v G1 H1 R1 g1 rv => by
  obtain ⟨d, e1, e2⟩ := Option.bind_eq_some_iff.mp e
  have s := rv.see R1 e1
  cases d <;> first | (cases e2; done) | skip
  cases e2
  exact ⟨b, s.bl, post G1 H1 R1 g1⟩
theorem st_of' (h : SE Ω te W n δ (.ok r δ1)) {b : Bool} (e : (r.see δ1).bind truD = some b) : ST Ω (tTest te) n δ b δ1 := st_of h e
theorem see_bl {δ : List Sl} {r : R} {b : Bool} (e : (r.see δ).bind truD = some b) : r.see δ = some (.bl b) := by
  obtain ⟨d, e1, e2⟩ := Option.bind_eq_some_iff.mp e
  cases d <;> first | (cases e2; done) | skip
  cases e2
  exact e1
theorem sa_nil : SA Ω tNil W n δ (.ok [] δ) := fun σ G H Q hl Rl post => post [] G H Rl GoE.refl .nil
theorem sa_cons {tr : TA} {rs : List R} (h1 : SE Ω te W n δ (.ok r δ1)) (h2 : SA Ω tr W n δ1 (.ok rs δ2)) : SA Ω (tCons te tr) W n δ (.ok (r :: rs) δ2) := fun σ G H Q hl Rl post =>
  h1 σ G H _ hl Rl fun v G1 H1 R1 g1 rv => h2 σ G1 H1 _ hl R1 fun vs G2 H2 R2 g2 rvs => post (v :: vs) G2 H2 R2 (g1.trans g2) (.cons (rv.stay Rl g1 g2) (rvs.back g1) (RVs.later rv rvs))
theorem sa_exc1 {tr : TA} {c : Nat} {d : D} (h1 : SE Ω te W n δ (.exc c d δ1)) : SA Ω (tCons te tr) W n δ (.exc c d δ1) := fun σ G H Q hl Rl post => h1 σ G H _ hl Rl post
theorem sa_exc2 {tr : TA} {c : Nat} {d : D} (h1 : SE Ω te W n δ (.ok r δ1)) (h2 : SA Ω tr W n δ1 (.exc c d δ2)) : SA Ω (tCons te tr) W n δ (.exc c d δ2) := fun σ G H Q hl Rl post =>
  h1 σ G H _ hl Rl fun v G1 H1 R1 g1 rv => h2 σ G1 H1 _ hl R1 fun w x G2 H2 R2 g2 => post w x G2 H2 R2 (g1.trans g2)
theorem se_un {ru : V → Hp → VK → Prop} {rr : R} (ha : SE Ω ta W n δ (.ok ra δ1)) {dx : D} (ex : ra.see δ1 = some dx)
    (ho : ∀ (σ : L2.St) (G H : Hp) (x : V) (Q : VK), Rel Ω.K Ω.T δ1 σ G H → See Ω.K G H x dx → (∀ v G' H', Rel Ω.K Ω.T δ1 σ G' H' → GoE δ1 δ1 σ G H G' H' → RV Ω.K G' H' σ H v rr → Q v H') → ru x H Q) :
    SE Ω (tUn ru ta) W n δ (.ok rr δ1) := fun σ G H Q hl Rl post => ha σ G H _ hl Rl fun x G2 H2 R2 g2 rx =>
  ho _ G2 H2 x Q R2 (rx.see R2 ex) fun v G3 H3 R3 g3 rv => post v G3 H3 R3 (g2.trans g3) (rv.back g2)
/-- a display -/
theorem se_lst {tr : TA} {rs : List R} {ds : List D} (h : SA Ω tr W n δ (.ok rs δ1)) (e : frzs δ1 rs = some (ds, δ2)) (hz : ds.length ≤ big) : SE Ω (tLst tr) W n δ (.ok (.new ds) δ2) := fun σ G H Q hl Rl post =>
  h σ G H _ hl Rl fun vs G1 H1 R1 g1 rvs => by
    obtain ⟨G2, R2, g2, dn, _⟩ := frzs_ok Rl g1 R1 rvs e
    refine ⟨by rw [dn.length]; exact le_big hz, fun p hp => post _ G2 _ (R2.laid hp) (g2.trans (GoE.laid hp)) ⟨p, vs, rfl, upd_same, R2.gfree hp, g2.go.back hp, dn⟩⟩
theorem se_tup {tr : TA} {rs : List R} {ds : List D} (h : SA Ω tr W n δ (.ok rs δ1)) (e : frzs δ1 rs = some (ds, δ2)) (hz : ds.length ≤ big) : SE Ω (tTup tr) W n δ (.ok (.val (.tup ds)) δ2) := fun σ G H Q hl Rl post =>
  h σ G H _ hl Rl fun vs G1 H1 R1 g1 rvs => by
    obtain ⟨G2, R2, g2, dn, _⟩ := frzs_ok Rl g1 R1 rvs e
    refine ⟨by rw [dn.length]; exact le_big hz, fun p hp => post _ _ _ (R2.laidG hp (fun ps z => by cases z)) (g2.trans (GoE.laidG R2 hp)) (Den.tup (.inl (.inl upd_same)) (dn.mono (same_new2 (R2.gfree hp))))⟩
/-- a call -/
theorem se_call {tr : TA} {rs : List R} {cf : Nat → List Sl → Option CO} {f : Nat} {o : EO} (h : SA Ω tr W n δ (.ok rs δ1)) (e : callD cf f rs δ1 = some o) :
    SE Ω (fun σ H Q => tr σ H fun vs H1 => SpF Ω (cf f) vs H1 Q fun c d H' => W c d σ H') W n δ o := fun σ G H Q hl Rl post => h σ G H _ hl Rl fun vs G1 H1 R1 g1 rvs => by
  unfold callD at e
  split at e
  · rename_i as ea
    split at e
    · rename_i nd
      have ra := arg_rel Rl g1 R1 rvs ea nd
      split at e
      · rename_i rr ps ec
        cases e
        refine ⟨as, G1, _, ec, ra, fun v G2 H2 Rp gp rv => ?_⟩
        obtain ⟨R2, g2⟩ := wb_ok Rl g1 R1 rvs ea nd Rp gp
        refine post v G2 H2 R2 g2 ?_
        cases rr with
        | val d => exact rv
        | new xs =>
          obtain ⟨a, ws, z1, z2, z3, z4, z5⟩ := rv
          exact ⟨a, ws, z1, z2, z3, g1.go.back z4, z5⟩
      · rename_i c d ps ec
        cases e
        refine ⟨as, G1, _, ec, ra, fun v x G2 H2 Rp gp hx dn => ?_⟩
        obtain ⟨R2, g2⟩ := wb_ok Rl g1 R1 rvs ea nd Rp gp
        exact post v x G2 H2 R2 g2 hx dn
      · cases e
    · cases e
  · cases e
end
end Mn

-- Mn11
set_option Elab.async false
set_option linter.all false
set_option maxRecDepth 100000
set_option autoImplicit false
namespace Mn
open PySem PySem.Spec L2

/-! ### a list of one's own is changed -/
section
variable {K : PySem.W.Frag} {T : List (Addr × Str)} {δ δ0 : List Sl} {σ : L2.St} {G H G0 H0 : Hp} {i : Nat} {xs ys : List D} {a : Addr} {ws us : List V}
theorem ow_set {s : Sl} {j : Nat} {zs : List D} (li : i < δ.length) (h : Ow (δ.set i s)[j]? zs) : (j = i ∧ Ow (some s) zs) ∨ (j ≠ i ∧ Ow δ[j]? zs) := by
  by_cases hj : j = i
  · subst hj
    rw [List.getElem?_set_self li] at h
    exact .inl ⟨rfl, h⟩
  · rw [List.getElem?_set_ne (Ne.symm hj)] at h
    exact .inr ⟨hj, h⟩
theorem own_put (o : δ[i]? = some (.own xs)) {b : Addr} (h : Own (δ.set i (.own ys)) σ b) : Own δ σ b := by
  obtain ⟨j, ⟨zs, z⟩, e⟩ := h
  rcases ow_set (lt_of_ow (.inl o)) z with ⟨hj, _⟩ | ⟨hj, z⟩
  · subst hj
    exact ⟨j, ⟨xs, .inl o⟩, e⟩
  · exact ⟨j, ⟨zs, z⟩, e⟩
theorem Rel.put (Rl : Rel K T δ σ G H) (o : δ[i]? = some (.own xs)) (e : σ[i]? = some (some (.ref a))) (d : DenL K G us ys) : Rel K T (δ.set i (.own ys)) σ G (upd H a (.lst us)) := by
  have li := lt_of_ow (.inl o : Ow δ[i]? xs)
  obtain ⟨a', ws, e1, h1, h2, h3⟩ := Rl.own i xs (.inl o)
  rw [e] at e1
  cases e1
  have ne : ∀ b o, G b = some o → b ≠ a := fun b o q z => by
    rw [z, h2] at q
    cases q
  have nl : ∀ b o, H b = some o → b ≠ a → upd H a (.lst us) b = some o := fun b o q z => by
    rw [upd_ne z]
    exact q
  refine ⟨by rw [List.length_set]; exact Rl.len, fun b o q => nl b o (Rl.sub b o q) (ne b o q), Rl.ntb, ?_, fun j d q => ?_, fun j zs q => ?_, fun j k b oj ok => ?_⟩
  · intro p hp
    obtain ⟨ps, t1, t2, t3⟩ := Rl.tab p hp
    have np : p.1 ≠ a := fun z => by
      rw [z, h1] at t1
      cases t1
    refine ⟨ps, nl _ _ t1 np, t2, fun pos cv q => ?_⟩
    obtain ⟨c, q1, q2⟩ := t3 pos cv q
    refine ⟨c, q1, nl _ _ q2 fun z => ?_⟩
    rw [z, h1] at q2
    cases q2
  · by_cases hj : j = i
    · subst hj
      rw [List.getElem?_set_self li] at q
      cases q
    · rw [List.getElem?_set_ne (Ne.symm hj)] at q
      exact Rl.val j d q
  · rcases ow_set li q with ⟨hj, z⟩ | ⟨hj, z⟩
    · subst hj
      obtain rfl : ys = zs := by
        rcases z with z | z
        · exact Sl.own.inj (Option.some.inj z)
        · cases z
      exact ⟨a, us, e, upd_same, h2, d⟩
    · obtain ⟨c, vs, y1, y2, y3, y4⟩ := Rl.own j zs z
      have nc : c ≠ a := fun z' => hj (Rl.sep j i a ⟨⟨zs, z⟩, by rw [← z']; exact y1⟩ ⟨⟨xs, .inl o⟩, e⟩)
      exact ⟨c, vs, y1, nl _ _ y2 nc, y3, y4⟩
  · obtain ⟨⟨zs, z1⟩, e1⟩ := oj
    obtain ⟨⟨zs', z2⟩, e2⟩ := ok
    have q1 : ∃ ts, Ow δ[j]? ts := by
      rcases ow_set li z1 with ⟨hj, _⟩ | ⟨_, z⟩
      · subst hj; exact ⟨xs, .inl o⟩
      · exact ⟨zs, z⟩
    have q2 : ∃ ts, Ow δ[k]? ts := by
      rcases ow_set li z2 with ⟨hj, _⟩ | ⟨_, z⟩
      · subst hj; exact ⟨xs, .inl o⟩
      · exact ⟨zs', z⟩
    exact Rl.sep j k b ⟨q1, e1⟩ ⟨q2, e2⟩
theorem GoE.put (g : GoE δ0 δ σ G0 H0 G H) (Rl : Rel K T δ σ G H) (o : δ[i]? = some (.own xs)) (e : σ[i]? = some (some (.ref a))) : GoE δ0 (δ.set i (.own ys)) σ G0 H0 G (upd H a (.lst us)) := by
  have li := lt_of_ow (.inl o : Ow δ[i]? xs)
  have oa : Own δ σ a := ⟨i, ⟨xs, .inl o⟩, e⟩
  refine ⟨⟨g.go.ex, fun b u q n t => ?_, fun b u q => ?_, g.go.new, fun b q => g.go.grow b (own_put o q)⟩, fun j zs q => ?_, fun j zs q => ?_, fun j x hx => ?_⟩
  · have nb : b ≠ a := fun z => n (by rw [z]; exact g.sub oa)
    rw [upd_ne nb]
    exact g.go.keep b u q n t
  · by_cases hb : b = a
    · rw [hb, upd_same]
      exact ⟨_, rfl⟩
    · rw [upd_ne hb]
      exact g.go.live b u q
  · rcases ow_set li q with ⟨hj, _⟩ | ⟨_, z⟩
    · subst hj
      exact g.less j xs (.inl o)
    · exact g.less j zs z
  · have z := g.lock j zs q
    have hj : j ≠ i := fun y => by
      subst y
      rw [z] at o
      cases o
    rw [List.getElem?_set_ne (Ne.symm hj)]
    exact z
  · by_cases hj : j = i
    · subst hj
      exact .inl ⟨ys, .inl (List.getElem?_set_self li)⟩
    · rw [List.getElem?_set_ne (Ne.symm hj)]
      exact g.fate j x hx
end
section
variable {Ω : Wd} {W : WX} {n : Nat} {δ δ1 δ2 δ3 : List Sl} {ta tb te to : TE} {ra rb r ro : R} {o : EO}
theorem bor_list {K : PySem.W.Frag} {T : List (Addr × Str)} {σ : L2.St} {G1 H1 G2 H2 : Hp} {i : Nat} {x : V} {xs : List D} (R1 : Rel K T δ1 σ G1 H1) (g2 : GoE δ1 δ2 σ G1 H1 G2 H2) (e : σ[i]? = some (some x)) (h : δ2[i]? = some (.own xs)) : tyV K "list" x H1 := by
  obtain ⟨ys, q⟩ := g2.less i xs (.inl h)
  obtain ⟨a, vs, z1, z2, _⟩ := R1.own i ys q
  rw [e] at z1
  cases z1
  exact .inl ⟨rfl, vs, .inl (.inl z2)⟩
theorem recv_own {i : Nat} {m : Me} (hm : m = .append ∨ m = .insert ∨ m = .pop) (h : recv m (.bor i) δ1 = true) : ∃ xs, Ow δ1[i]? xs := by
  cases m with
  | get => rcases hm with z | z | z <;> cases z
  | join => rcases hm with z | z | z <;> cases z
  | pop =>
    simp only [recv] at h
    split at h
    · rename_i xs q; exact ⟨xs, .inl q⟩
    · rename_i xs q; exact ⟨xs, .inr q⟩
    · cases h
  | append =>
    simp only [recv] at h
    split at h
    · rename_i xs q; exact ⟨xs, .inl q⟩
    · rename_i xs q; exact ⟨xs, .inr q⟩
    · cases h
  | insert =>
    simp only [recv] at h
    split at h
    · rename_i xs q; exact ⟨xs, .inl q⟩
    · rename_i xs q; exact ⟨xs, .inr q⟩
    · cases h
theorem ty_own {K : PySem.W.Frag} {T : List (Addr × Str)} {σ : L2.St} {G1 H1 : Hp} {i : Nat} {x : V} (R1 : Rel K T δ1 σ G1 H1) (e : σ[i]? = some (some x)) (h : ∃ xs, Ow δ1[i]? xs) : tyV K "list" x H1 := by
  obtain ⟨ys, q⟩ := h
  obtain ⟨a, vs, z1, z2, _⟩ := R1.own i ys q
  rw [e] at z1
  cases z1
  exact .inl ⟨rfl, vs, .inl (.inl z2)⟩
theorem se_append {i : Nat} (ho : SE Ω to W n δ (.ok (.bor i) δ1)) (hr : recv .append (.bor i) δ1 = true) (ha : SE Ω ta W n δ1 (.ok ra δ2)) (e : apD i ra δ2 = some o) : SE Ω (tBM Ω.K "list" rAppend to (tCons ta tNil)) W n δ o := by
  unfold apD at e
  split at e
  · rename_i d δ3 ef
    split at e
    · rename_i xs eo
      split at e
      · rename_i hz
        cases e
        intro σ G H Q hl Rl post
        refine ho σ G H _ hl Rl fun x G1 H1 R1 g1 rx => ?_
        have rx : σ[i]? = some (some x) := rx
        refine ⟨ty_own R1 rx (recv_own (by simp) hr), ha σ G1 H1 _ hl R1 fun y G2 H2 R2 g2 ry => ?_⟩
        obtain ⟨G3, R3, g3, dn, _⟩ := frz_ok R1 g2 R2 ry ef
        obtain ⟨a, ws, z1, z2, z3, z4⟩ := R3.own i xs (.inl eo)
        have z1' := z1
        rw [rx] at z1
        cases z1
        refine ⟨a, ws, y, rfl, rfl, z2, by rw [z4.length]; exact lt_big hz, ?_⟩
        exact post .non G3 _ (R3.put eo z1' (z4.append (.cons dn .nil))) ((g1.trans g3).put R3 eo z1') .non
      · cases e
    · cases e
  · cases e
theorem se_insert {i : Nat} (ho : SE Ω to W n δ (.ok (.bor i) δ1)) (hr : recv .insert (.bor i) δ1 = true) (ha : SE Ω ta W n δ1 (.ok ra δ2)) (hb : SE Ω tb W n δ2 (.ok rb δ3)) (e : inD1 i ra rb δ3 = some o) :
    SE Ω (tBM Ω.K "list" rInsert to (tCons ta (tCons tb tNil))) W n δ o := by
  unfold inD1 at e
  split at e
  · rename_i j d δ4 es ef
    split at e
    · rename_i xs eo
      split at e
      · rename_i hz
        cases e
        intro σ G H Q hl Rl post
        refine ho σ G H _ hl Rl fun x G1 H1 R1 g1 rx => ?_
        have rx : σ[i]? = some (some x) := rx
        refine ⟨ty_own R1 rx (recv_own (by simp) hr), se_two ha hb hl R1 fun k y G2 H2 R2 g2 rk ry => ?_⟩
        have sk := (rk.see R2 es).int
        subst sk
        obtain ⟨G3, R3, g3, dn, _⟩ := frz_ok R1 g2 R2 ry ef
        obtain ⟨a, ws, z1, z2, z3, z4⟩ := R3.own i xs (.inl eo)
        have z1' := z1
        rw [rx] at z1
        cases z1
        refine ⟨a, ws, j, y, rfl, rfl, z2, by rw [z4.length]; exact lt_big hz.2.2, hz.1, ?_, ?_⟩
        · have := hz.2.1
          have h3 : xs.length < 1000000 := hz.2.2
          omega
        · exact post .non G3 _ (R3.put eo z1' (((z4.take _).append (.cons dn .nil)).append (z4.drop _))) ((g1.trans g3).put R3 eo z1') .non
      · cases e
    · cases e
  · cases e
theorem se_pop {i : Nat} (ho : SE Ω to W n δ (.ok (.bor i) δ1)) (hr : recv .pop (.bor i) δ1 = true) (ha : SE Ω ta W n δ1 (.ok ra δ2)) (e : popD i ra δ2 = some o) : SE Ω (tBM Ω.K "list" rPopAt to (tCons ta tNil)) W n δ o := by
  unfold popD at e
  split at e
  · rename_i j es
    split at e
    · rename_i xs eo
      split at e
      · rename_i hj
        split at e
        · rename_i d ed
          cases e
          intro σ G H Q hl Rl post
          refine ho σ G H _ hl Rl fun x G1 H1 R1 g1 rx => ?_
          have rx : σ[i]? = some (some x) := rx
          refine ⟨ty_own R1 rx (recv_own (by simp) hr), ha σ G1 H1 _ hl R1 fun k G2 H2 R2 g2 rk => ?_⟩
          have sk := (rk.see R2 es).int
          subst sk
          obtain ⟨a, ws, z1, z2, z3, z4⟩ := R2.own i xs (.inl eo)
          have z1' := z1
          rw [rx] at z1
          cases z1
          obtain ⟨y, y1, y2⟩ := z4.get ed
          have hlt : j.toNat < ws.length := by
            rcases Nat.lt_or_ge j.toNat ws.length with z | z
            · exact z
            · rw [List.getElem?_eq_none z] at y1; cases y1
          have hw : j < 1000000 := hj.2
          refine ⟨a, ws, j, j.toNat, y, rfl, rfl, z2, by omega, by omega, seqIndex_of hj.1 (by omega), y1, ?_⟩
          rw [List.eraseIdx_eq_take_drop_succ]
          exact post y G2 _ (R2.put eo z1' ((z4.take _).append (z4.drop _))) ((g1.trans g2).put R2 eo z1') y2
        · cases e
      · cases e
    · cases e
  · cases e
theorem strs_den {K : PySem.W.Frag} {G : Hp} : ∀ {vs : List V} {ds : List D} {ys : List Str}, DenL K G vs ds → strs0 ds = some ys → vs = ys.map V.str
  | _, _, _, .nil, e => by cases e; rfl
  | _, _, ys, .cons (d := d) h t, e => by
    cases d <;> first | (cases e; done) | skip
    obtain ⟨zs, e1, e2⟩ := Option.map_eq_some_iff.mp e
    subst e2
    cases h
    rw [strs_den t e1]
    rfl
theorem se_join {x : Str} {y : Str} (ho : SE Ω to W n δ (.ok (.val (.str x)) δ1)) (ha : SE Ω ta W n δ1 (.ok ra δ2)) (e : (ra.see δ2).bind (joinD x) = some y) :
    SE Ω (tM1 (fun x xs H Q => ∃ a p, ∃ ys : List Str, x = .str a ∧ xs = [.ref p] ∧ (SqL Ω.K H p (ys.map V.str) ∨ SqT Ω.K H p (ys.map V.str)) ∧ (ys.map (·.length)).sum + ys.length * a.length ≤ 16777216 ∧ Q (.str (Txt.join a ys)) H) to ta) W n δ (.ok (.val (.str y)) δ2) := by
  obtain ⟨d, es, ej⟩ := Option.bind_eq_some_iff.mp e
  intro σ G H Q hl Rl post
  refine ho σ G H _ hl Rl fun v G1 H1 R1 g1 rx => ?_
  have rx : Den Ω.K G1 v (.str x) := rx
  cases rx
  refine ⟨⟨x, rfl⟩, ha σ G1 H1 _ hl R1 fun k G2 H2 R2 g2 rk => ?_⟩
  cases d <;> first | (cases ej; done) | skip
  rename_i xs
  obtain ⟨a, vs, rfl, h1, h2⟩ := (rk.see R2 es).seqL R2.sub
  obtain ⟨ys, ey, e2⟩ := Option.bind_eq_some_iff.mp ej
  split at e2
  · rename_i hz
    cases e2
    obtain rfl := strs_den h2 ey
    exact ⟨x, a, ys, rfl, rfl, .inl h1, Nat.le_trans hz (by decide), post _ G2 H2 R2 (g1.trans g2) (.str _)⟩
  · cases e2
theorem se_get {rc : R} {tc : TE} {δ4 : List Sl} (ho : SE Ω to W n δ (.ok ro δ1)) (hr : recv .get ro δ1 = true) (ha : SE Ω ta W n δ1 (.ok ra δ2)) (hb : SE Ω tb W n δ2 (.ok rb δ3)) (e : gtD ro ra rb δ3 = some o) :
    SE Ω (tDGet2 to ta tb) W n δ o := by
  simp only [recv] at hr
  split at hr
  · rename_i kvs0 es0
    unfold gtD at e
    split at e
    · rename_i kvs key es ek
      obtain ⟨kd, ek1, ek2⟩ := Option.bind_eq_some_iff.mp ek
      intro σ G H Q hl Rl post
      refine ho σ G H _ hl Rl fun x G1 H1 R1 g1 rx => ?_
      obtain ⟨a, vs0, rfl, h0, _⟩ := (rx.see R1 es0).dct R1.sub
      refine ⟨a, rfl, .inl ⟨vs0, .inl h0⟩, se_two ha hb hl R1 fun k y G2 H2 R2 g2 rk ry => ?_⟩
      have sx := rx.stay Rl g1 g2
      obtain ⟨a', vs, ea, h1, dk⟩ := (sx.see R2 es).dct R2.sub
      cases ea
      have sk := key_eq (rk.see R2 ek1) ek2
      subst sk
      obtain ⟨f1, f2⟩ := dk.find (k := key)
      split at e
      · rename_i kv q
        cases e
        obtain ⟨v, z1, z2⟩ := f1 kv q
        refine ⟨some v, ?_, post v G2 H2 R2 (g1.trans g2) z2⟩
        rw [← z1]
        exact DGet.k h1
      · rename_i q
        split at e
        · rename_i d δ5 ef
          cases e
          obtain ⟨G3, R3, g3, dn, _⟩ := frz_ok R1 g2 R2 ry ef
          refine ⟨none, ?_, post y G3 H2 R3 (g1.trans g3) dn⟩
          rw [← f2 q]
          exact DGet.k h1
        · cases e
    · cases e
  · cases hr
end
end Mn

-- Ob4
set_option Elab.async false
set_option linter.all false
set_option maxRecDepth 100000
set_option maxHeartbeats 1000000
set_option autoImplicit false
namespace Mn
open PySem PySem.Spec L2

/-! ## own methods called by operators -/
theorem sls_vals (δ : List Sl) : ∀ ds : List D, argSls δ (ds.map R.val) = some (ds.map Sl.val)
  | [] => rfl
  | d :: ds => by
    show (match argSl δ (R.val d), argSls δ (ds.map R.val) with | some d, some ds => some (d :: ds) | _, _ => none) = _
    rw [sls_vals δ ds] <;> rfl
theorem bors_vals : ∀ ds : List D, bors (ds.map R.val) = []
  | [] => rfl
  | d :: ds => bors_vals ds
theorem wb_vals (δ : List Sl) : ∀ (ds : List D) (ps : List Sl), wb δ (ds.map R.val) ps = δ
  | [], ps => by simp [wb]
  | d :: ds, [] => by simp [wb]
  | d :: ds, p :: ps => wb_vals δ ds ps
section
variable {Ω : Wd} {cf : Nat → List Sl → Option CO} {gd : Gd} {δ : List Sl} {σ : L2.St} {G H : Hp} {Q : VK}
theorem rvs_vals {K : PySem.W.Frag} : ∀ {vs : List V} {ds : List D}, DenL K G vs ds → RVs K G H σ H vs (ds.map R.val)
  | _, _, .nil => .nil
  | _, _, .cons h t => .cons h (rvs_vals t) (fun a i v' r' n _ _ _ => by obtain ⟨⟨xs, z⟩, _⟩ := n; cases z)
theorem own_call {f : Nat} {ds : List D} {vs : List V} {d : D} {ps : List Sl} {E : XK} (Rl : Rel Ω.K Ω.T δ σ G H) (h : DenL Ω.K G vs ds) (e : cf f (ds.map Sl.val) = some (.ret (.val d) ps))
    (q : ∀ v G' H', Rel Ω.K Ω.T δ σ G' H' → GoE δ δ σ G H G' H' → Den Ω.K G' v d → Q v H') : SpF Ω (cf f) vs H Q E := by
  have rv := rvs_vals (σ := σ) (H := H) h
  have ea := sls_vals δ ds
  have nd : (bors (ds.map R.val)).Nodup := by rw [bors_vals]; exact List.nodup_nil
  refine ⟨_, G, _, e, arg_rel Rl GoE.refl Rl rv ea nd, fun v G2 H2 Rp gp rv2 => ?_⟩
  obtain ⟨R2, g2⟩ := wb_ok Rl GoE.refl Rl rv ea nd Rp gp
  rw [wb_vals] at R2 g2
  exact q v G2 H2 R2 g2 rv2
theorem Den.ins {K : PySem.W.Frag} {v : V} {C : Str} {fs : List (Str × D)} (h : Den K G v (.obj C fs)) (s : Same G H) : InsAt K H C v := by
  cases h with
  | obj h1 h2 h3 => exact ⟨_, _, _, rfl, s _ _ h1⟩
theorem See.obj {K : PySem.W.Frag} {v : V} {C : Str} {fs : List (Str × D)} (h : See K G H v (.obj C fs)) : Den K G v (.obj C fs) := by
  rcases h with h | ⟨_, _, _, _, e, _⟩
  · exact h
  · cases e
theorem own2_eq {m : Str} {x y d : D} (e : own2 cf gd m x y = some d) : ∃ C fs f ps, x = .obj C fs ∧ gd.mth.lookup (C, m) = some f ∧ cf f ([x, y].map Sl.val) = some (.ret (.val d) ps) := by
  unfold own2 at e
  split at e
  · rename_i C fs
    split at e
    · rename_i f ef
      split at e
      · rename_i d' ps ec
        cases e
        exact ⟨C, fs, f, ps, rfl, ef, ec⟩
      · cases e
    · cases e
  · cases e
theorem own1_eq {m : Str} {x d : D} (e : own1 cf gd m x = some d) : ∃ C fs f ps, x = .obj C fs ∧ gd.mth.lookup (C, m) = some f ∧ cf f ([x].map Sl.val) = some (.ret (.val d) ps) := by
  unfold own1 at e
  split at e
  · rename_i C fs
    split at e
    · rename_i f ef
      split at e
      · rename_i d' ps ec
        cases e
        exact ⟨C, fs, f, ps, rfl, ef, ec⟩
      · cases e
    · cases e
  · cases e
theorem hasM_eq {m : Str} {y : D} (e : hasM gd m y = true) : ∃ C fs, y = .obj C fs ∧ (gd.mth.lookup (C, m)).isSome = true := by
  cases y <;> first | (cases e; done) | skip
  exact ⟨_, _, rfl, e⟩
theorem isObj_eq {x : D} (h : isObj x = true) : ∃ C fs, x = .obj C fs := by
  cases x <;> first | (cases h; done) | skip
  exact ⟨_, _, rfl⟩
variable {fsp : Nat → Sp}
theorem binO_ok {op : Operator} {x y : V} {dx dy : D} {r : RD} (fn : ∀ f, fsp f = SpF Ω (cf f)) (em : gd.mth = Ω.Γ.mth) (R : Rel Ω.K Ω.T δ σ G H) (hx : See Ω.K G H x dx) (hy : See Ω.K G H y dy) (e : binO cf gd op dx dy = some r) (q : Nxt Ω.K Ω.T δ σ G H Q r) : rBinO Ω.K Ω.Γ fsp op x y H Q := by
  unfold binO at e
  split at e
  · rename_i ho
    split at e
    · rename_i hz
      simp only [Bool.and_eq_true] at hz
      obtain ⟨d, e1, e2⟩ := Option.map_eq_some_iff.mp e
      subst e2
      obtain ⟨C, fs, f, ps, rfl, el, ec⟩ := own2_eq e1
      obtain ⟨D, gs, rfl, el2⟩ := hasM_eq hz.2
      have hx := hx.obj
      have hy := hy.obj
      have nm : opNm op = opNm3 op := rfl
      refine .inr ⟨?_, C, D, f, hx.ins R.sub, hy.ins R.sub, by rw [← em]; exact el, by rw [← em]; exact el2, ?_⟩
      · cases op <;> first | (cases hz.1; done) | simp
      · rw [fn f]
        exact own_call R (.cons hx (.cons hy .nil)) ec fun v G' H' R' g' dn => q v G' H' R' g' dn
    · cases e
  · exact .inl (bin_ok R hx hy e q)
theorem kd_ok {x : V} {dx : D} (s : Same G H) (hx : See Ω.K G H x dx) (e : (tyN dx).isSome = true) : KdA Ω.K H x := by
  obtain ⟨n, e⟩ := Option.isSome_iff_exists.mp e
  refine ⟨n, ?_, ty_ok s hx e⟩
  cases dx <;> first | (cases e; done) | skip
  all_goals (cases e; simp [blt7])
theorem eqO_ok {x y : V} {dx dy : D} {b : Bool} (fn : ∀ f, fsp f = SpF Ω (cf f)) (em : gd.mth = Ω.Γ.mth) (R : Rel Ω.K Ω.T δ σ G H) (hx : Den Ω.K G x dx) (hy : Den Ω.K G y dy) (e : eqO cf gd dx dy = some b) :
    ∃ C f, InsAt Ω.K H C x ∧ Ω.Γ.mth.lookup (C, (Str.ofString "__eq__")) = some f ∧ (KdA Ω.K H y ∨ ∃ D, InsAt Ω.K H D y ∧ (Ω.Γ.mth.lookup (D, (Str.ofString "__eq__"))).isSome = true) ∧
      ∀ neg Q', (∀ G' H', Rel Ω.K Ω.T δ σ G' H' → GoE δ δ σ G H G' H' → Q' (.bl (if neg then !b else b)) H') → fsp f [x, y] H (blQ neg Q') E00 := by
  unfold eqO at e
  split at e
  · rename_i hk
    split at e
    · rename_i b' eo
      cases e
      obtain ⟨C, fs, f, ps, rfl, el, ec⟩ := own2_eq eo
      refine ⟨C, f, hx.ins R.sub, by rw [← em]; exact el, ?_, fun neg Q' hq => ?_⟩
      · simp only [Bool.or_eq_true] at hk
        rcases hk with hk | hk
        · exact .inl (kd_ok R.sub (.inl hy) hk)
        · obtain ⟨D, gs, rfl, el2⟩ := hasM_eq hk
          exact .inr ⟨D, hy.ins R.sub, by rw [← em]; exact el2⟩
      · rw [fn f]
        exact own_call R (.cons hx (.cons hy .nil)) ec fun v G' H' R' g' dn => by
          cases dn
          exact ⟨b, rfl, hq G' H' R' g'⟩
    · cases e
  · cases e
theorem cmpO_ok {op : CmpOp} {x y : V} {dx dy : D} {b : Bool} (fn : ∀ f, fsp f = SpF Ω (cf f)) (em : gd.mth = Ω.Γ.mth) (R : Rel Ω.K Ω.T δ σ G H) (hx : Den Ω.K G x dx) (hy : Den Ω.K G y dy) (e : cmpO cf gd op dx dy = some b)
    (q : ∀ G' H', Rel Ω.K Ω.T δ σ G' H' → GoE δ δ σ G H G' H' → Q (.bl b) H') : rCmpO Ω.K Ω.Γ fsp op x y H Q := by
  unfold cmpO at e
  split at e
  · split at e
    · obtain ⟨C, f, h1, h2, h3, h4⟩ := eqO_ok fn em R hx hy e
      exact .inr (.inl ⟨rfl, .inl ⟨C, f, h1, h2, h3, h4 false Q (fun G' H' R' g' => q G' H' R' g')⟩⟩)
    · split at e
      · rename_i ho
        simp only [Bool.and_eq_true] at ho
        obtain ⟨C, f, h1, h2, h3, h4⟩ := eqO_ok fn em R hy hx e
        exact .inr (.inl ⟨rfl, .inr ⟨C, f, h1, h2, kd_ok R.sub (.inl hx) ho.2, h4 false Q (fun G' H' R' g' => q G' H' R' g')⟩⟩)
      · exact .inl (cmp_ok R (.inl hx) (.inl hy) e (q G H R GoE.refl))
  · split at e
    · obtain ⟨c, e1, e2⟩ := Option.map_eq_some_iff.mp e
      obtain ⟨C, f, h1, h2, h3, h4⟩ := eqO_ok fn em R hx hy e1
      exact .inr (.inr ⟨rfl, C, f, h1, h2, h3, h4 true Q (fun G' H' R' g' => by rw [if_pos rfl, e2]; exact q G' H' R' g')⟩)
    · split at e
      · cases e
      · exact .inl (cmp_ok R (.inl hx) (.inl hy) e (q G H R GoE.refl))
  · exact .inl (cmp_ok R (.inl hx) (.inl hy) e (q G H R GoE.refl))
theorem own1_ok {m : Str} {x : V} {dx : D} {r : RD} (fn : ∀ f, fsp f = SpF Ω (cf f)) (em : gd.mth = Ω.Γ.mth) (R : Rel Ω.K Ω.T δ σ G H) (hx : See Ω.K G H x dx) (e : strO (own1 cf gd m dx) = some r) (q : Nxt Ω.K Ω.T δ σ G H Q r) : rOwn1 Ω.K Ω.Γ fsp m [x] H Q := by
  cases eo : own1 cf gd m dx with
  | none => rw [eo] at e; cases e
  | some d =>
    rw [eo] at e
    cases d <;> first | (cases e; done) | skip
    rename_i z
    cases e
    obtain ⟨C, fs, f, ps, rfl, el, ec⟩ := own1_eq eo
    have hx := hx.obj
    refine ⟨x, C, f, rfl, hx.ins R.sub, by rw [← em]; exact el, ?_⟩
    rw [fn f]
    exact own_call R (.cons hx .nil) ec fun v G' H' R' g' dn => by
      have dn' := dn
      cases dn
      exact ⟨z, rfl, q _ G' H' R' g' dn'⟩
theorem biO_ok {b : Bi} {ds : List D} {vs : List V} {r : RD} (fn : ∀ f, fsp f = SpF Ω (cf f)) (em : gd.mth = Ω.Γ.mth) (R : Rel Ω.K Ω.T δ σ G H) (h : Sees Ω.K G H vs ds) (e : biO cf gd b ds = some r) (q : Nxt Ω.K Ω.T δ σ G H Q r) : rBiO Ω.K Ω.Γ fsp b vs H Q := by
  unfold biO at e
  split at e
  · split at e
    · obtain ⟨v, rfl, hv⟩ := h.one
      exact .inr (.inl ⟨rfl, own1_ok fn em R hv e q⟩)
    · exact .inl (bi_ok R h e q)
  · split at e
    · obtain ⟨v, rfl, hv⟩ := h.one
      exact .inr (.inr ⟨rfl, own1_ok fn em R hv e q⟩)
    · exact .inl (bi_ok R h e q)
  · exact .inl (bi_ok R h e q)
theorem isc_ok {c : Nat} {x : V} {dx : D} {b : Bool} {lv : Nat} (fx : Owns Ω fsp lv) (es : gd.sub = Ω.Γ.sub) (hn : gd.nc = Ω.Γ.ocl.length) (s : Same G H) (hx : See Ω.K G H x dx) (e : iscD gd c dx = some b) (q : Q (.bl b) H) : rIsi Ω.K [x, .ref (gaK Ω.K (gname Ω.Γ.ocl c))] H Q := by
  unfold iscD at e
  split at e
  next hc =>
   rw [hn] at hc
   cases ho : isObj dx with
   | true =>
     obtain ⟨C, fs, rfl⟩ := isObj_eq ho
     dsimp only at e
     obtain ⟨l, e1, e2⟩ := Option.map_eq_some_iff.mp e
     subst e2
     rw [es] at e1
     obtain ⟨k1, k2, k3, k4⟩ := fx.sub C l e1
     obtain ⟨a, dx, fs', rfl, ea⟩ := hx.obj.ins s
     exact ⟨_, _, _, _, _, rfl, .own _, .base (.ins ea k2 k3 fx.get.1 fx.get.2 k4), k1 c hc, q⟩
   | false =>
     cases et : tyN dx with
     | none => cases dx <;> first | (cases et; done) | (cases e; done) | (cases ho; done)
     | some n =>
       have ty := ty_ok s hx et
       have hb : b = false := by
         cases dx <;> first | (cases et; done) | (cases ho; done) | (cases e; rfl)
       subst hb
       have hn : n ∈ blt7 := by cases dx <;> first | (cases et; done) | (cases et; simp [blt7])
       exact ⟨_, _, _, _, _, rfl, .own _, ty, fx.sub0 n hn c hc, q⟩
  next => cases e
theorem DenF.lookup {K : PySem.W.Frag} {f : Str} : ∀ {vs : List (Str × V)} {ds : List (Str × D)} {d : D}, DenF K G vs ds → ds.lookup f = some d → ∃ v, vs.lookup f = some v ∧ Den K G v d
  | _, _, _, .nil, e => by cases e
  | _, _, d, .cons (k := k) h t, e => by
    rw [List.lookup_cons] at e
    cases hk : f == k with
    | true =>
      rw [hk] at e
      cases e
      refine ⟨_, ?_, h⟩
      rw [List.lookup_cons, hk]
    | false =>
      rw [hk] at e
      obtain ⟨v, z1, z2⟩ := t.lookup e
      refine ⟨v, ?_, z2⟩
      rw [List.lookup_cons, hk]
      exact z1
theorem fmt_ok {rp : Bool} {x : V} {dx : D} {y : Str} (hx : See Ω.K G H x dx) (e : fmtD rp dx = some y) (q : Q (.str y) H) :
    (if rp then (∃ y, x = V.str y ∧ (reprText y).length ≤ sizeLine ∧ Q (V.str (reprText y)) H) ∨ ∃ i : Int, x = V.int i ∧ i.natAbs.log2 < 1920 ∧ Q (V.str (Str.ofString (toString i))) H
     else (∃ y, x = V.str y ∧ y.length ≤ sizeLine ∧ Q (V.str y) H) ∨ ∃ i : Int, x = V.int i ∧ i.natAbs.log2 < 1920 ∧ Q (V.str (Str.ofString (toString i))) H) := by
  unfold fmtD at e
  split at e
  · split at e
    · rename_i hr
      split at e
      · rename_i hz
        cases e
        rw [if_pos hr]
        exact .inl ⟨_, hx.str, le_big hz, q⟩
      · cases e
    · rename_i hr
      split at e
      · rename_i hz
        cases e
        rw [if_neg hr]
        exact .inl ⟨_, hx.str, le_big hz, q⟩
      · cases e
  · split at e
    · rename_i c
      cases e
      split
      · exact .inr ⟨_, hx.int, log_lt c, q⟩
      · exact .inr ⟨_, hx.int, log_lt c, q⟩
    · cases e
  · cases e
end
theorem cat_assoc (a b c : Str) : a ++ (b ++ c) = (a ++ b) ++ c := by
  show Str.mk (a.cps ++ (b.cps ++ c.cps)) = Str.mk ((a.cps ++ b.cps) ++ c.cps)
  rw [Array.append_assoc]
theorem cat_empty (a : Str) : a ++ Str.empty = a := by
  show Str.mk (a.cps ++ #[]) = a
  rw [Array.append_empty]
theorem cat_empty2 (a : Str) : Str.empty ++ a = a := by
  show Str.mk (#[] ++ a.cps) = a
  rw [Array.empty_append]
theorem cat_len (a b : Str) : (a ++ b).length = a.length + b.length := by
  show (a.cps ++ b.cps).size = _
  rw [Array.size_append] <;> rfl
end Mn

-- Mn12
set_option Elab.async false
set_option linter.all false
set_option maxRecDepth 100000
set_option autoImplicit false
namespace Mn
open PySem PySem.Spec L2

/-! ### what is walked -/
/-- the walk J goes through xs now -/
structure Src (K : PySem.W.Frag) (G H : Hp) (J : L2.It) (xs : List D) : Prop where
  go : ∀ i, i < xs.length → J.go i H
  yl : ∀ i x H', J.yld i H x H' → i < xs.length → H' = H ∧ ∃ d, xs[i]? = some d ∧ Den K G x d
  st : J.stop xs.length H
/-- later on: the locked slots are as they were -/
structure Later (K : PySem.W.Frag) (T : List (Addr × Str)) (δ : List Sl) (σ : L2.St) (G H : Hp) (δ' : List Sl) (σ' : L2.St) (G' H' : Hp) : Prop where
  rel : Rel K T δ' σ' G' H'
  ex : Same G G'
  keep : ∀ b o, H b = some o → ¬ Own δ σ b → (∀ ps, o ≠ .tbl ps) → H' b = some o
  lock : ∀ (i : Nat) (xs : List D), δ[i]? = some (.lock xs) → δ'[i]? = some (.lock xs) ∧ σ'[i]? = σ[i]?
section
variable {K : PySem.W.Frag} {T : List (Addr × Str)} {δ δ' : List Sl} {σ σ' : L2.St} {G H G' H' : Hp} {xs : List D} {a : Addr} {vs : List V}
theorem src_list (h : SqL K H a vs) (d : DenL K G vs xs) : Src K G H (Itl K a) xs := by
  have l := d.length
  refine ⟨fun i hi => ⟨vs, vs[i], h, by simp [l, hi]⟩, fun i x H' y hi => ?_, ⟨vs, h, by omega⟩⟩
  obtain ⟨e, y⟩ := y
  obtain ⟨d', z1, z2⟩ := d.getV (y vs h)
  exact ⟨e, d', z1, z2⟩
theorem src_tup (h : SqT K H a vs) (d : DenL K G vs xs) : Src K G H (Itt K a) xs := by
  have l := d.length
  refine ⟨fun i hi => ⟨vs, vs[i], h, by simp [l, hi]⟩, fun i x H' y hi => ?_, ⟨vs, h, by omega⟩⟩
  obtain ⟨e, y⟩ := y
  obtain ⟨d', z1, z2⟩ := d.getV (y vs h)
  exact ⟨e, d', z1, z2⟩
theorem src_rng {lo : Int} {n : Nat} : Src K G H (Itr lo n) (rngD lo n) := by
  have l : (rngD lo n).length = n := by simp [rngD]
  refine ⟨fun i hi => by rw [l] at hi; exact hi, fun i x H' y hi => ?_, by rw [l]; exact Nat.le_refl _⟩
  obtain ⟨e, y⟩ := y
  subst y
  rw [l] at hi
  refine ⟨e, D.int (lo + (i : Nat)), ?_, .int _⟩
  unfold rngD
  rw [List.getElem?_map, List.getElem?_range hi] <;> rfl
end

section
variable (Ω : Wd)
/-- what was locked was not before -/
def LkOk (δ δ1 : List Sl) : Option (Nat × Sl) → Prop
  | none => True
  | some (i, s) => ∃ xs, s = .own xs ∧ δ1[i]? = some (.lock xs) ∧ ∀ ys, δ[i]? ≠ some (.lock ys)
def SI (wi : TI) (n : Nat) (δ : List Sl) (xs : List D) (δ1 : List Sl) (lk : Option (Nat × Sl)) : Prop := ∀ (σ : L2.St) (G H : Hp) (Rk : L2.It → Hp → Prop), σ.length = n → Rel Ω.K Ω.T δ σ G H →
  (∀ J G' H', Rel Ω.K Ω.T δ1 σ G' H' → GoE δ δ1 σ G H G' H' → LkOk δ δ1 lk → (∀ δ' σ' G2 H2, Later Ω.K Ω.T δ1 σ G' H' δ' σ' G2 H2 → Src Ω.K G2 H2 J xs) → Rk J H') → wi σ H Rk
end
section
variable {Ω : Wd} {W : WX} {n : Nat} {δ δ1 δ2 : List Sl} {te : TE} {r : R} {xs : List D} {lk : Option (Nat × Sl)}
theorem lock_rel {K : PySem.W.Frag} {T : List (Addr × Str)} {σ : L2.St} {G H : Hp} {i : Nat} (Rl : Rel K T δ σ G H) (o : δ[i]? = some (.own xs)) : Rel K T (δ.set i (.lock xs)) σ G H ∧ ∀ δ0 G0 H0, GoE δ0 δ σ G0 H0 G H → GoE δ0 (δ.set i (.lock xs)) σ G0 H0 G H := by
  have li := lt_of_ow (.inl o : Ow δ[i]? xs)
  have ow : ∀ (j : Nat) (zs : List D), Ow (δ.set i (.lock xs))[j]? zs → Ow δ[j]? zs := fun j zs q => by
    rcases ow_set li q with ⟨hj, z⟩ | ⟨_, z⟩
    · subst hj
      rcases z with z | z
      · cases z
      · cases z
        exact .inl o
    · exact z
  refine ⟨⟨by rw [List.length_set]; exact Rl.len, Rl.sub, Rl.ntb, Rl.tab, fun j d q => ?_, fun j zs q => Rl.own j zs (ow j zs q), fun j k b ⟨⟨zs, z1⟩, e1⟩ ⟨⟨zs', z2⟩, e2⟩ => Rl.sep j k b ⟨⟨zs, ow j zs z1⟩, e1⟩ ⟨⟨zs', ow k zs' z2⟩, e2⟩⟩, fun δ0 G0 H0 g => ?_⟩
  · by_cases hj : j = i
    · subst hj
      rw [List.getElem?_set_self li] at q
      cases q
    · rw [List.getElem?_set_ne (Ne.symm hj)] at q
      exact Rl.val j d q
  · refine ⟨⟨g.go.ex, g.go.keep, g.go.live, g.go.new, fun b ⟨j, ⟨zs, z⟩, e⟩ => g.go.grow b ⟨j, ⟨zs, ow j zs z⟩, e⟩⟩, fun j zs q => g.less j zs (ow j zs q), fun j zs q => ?_, fun j x hx => ?_⟩
    have z := g.lock j zs q
    have hj : j ≠ i := fun y => by
      subst y
      rw [z] at o
      cases o
    rw [List.getElem?_set_ne (Ne.symm hj)]
    exact z
    by_cases hj : j = i
    · subst hj
      exact .inl ⟨xs, .inr (List.getElem?_set_self li)⟩
    · rw [List.getElem?_set_ne (Ne.symm hj)]
      exact g.fate j x hx
theorem si_seq (h : SE Ω te W n δ (.ok r δ1)) (e : lockS δ1 r = some (xs, δ2, lk)) : SI Ω (iSeq Ω.K te) n δ xs δ2 lk := by
  intro σ G H Rk hl Rl post
  -- a list whose contents are where they are for good
  have fz : ∀ (K : PySem.W.Frag) {a : Addr} {vs : List V} {G1 H1 : Hp}, SqL K G1 a vs → DenL K G1 vs xs → ∀ δ' σ' G2 H2 δ1 σ1, Later K Ω.T δ1 σ1 G1 H1 δ' σ' G2 H2 → Src K G2 H2 (Itl K a) xs := fun K {a vs G1 H1} h d δ' σ' G2 H2 δ1 σ1 L =>
    src_list (sqL_mono (L.ex.trans L.rel.sub) h) (d.mono L.ex)
  have ft : ∀ (K : PySem.W.Frag) {a : Addr} {vs : List V} {G1 H1 : Hp}, SqT K G1 a vs → DenL K G1 vs xs → ∀ δ' σ' G2 H2 δ1 σ1, Later K Ω.T δ1 σ1 G1 H1 δ' σ' G2 H2 → Src K G2 H2 (Itt K a) xs := fun K {a vs G1 H1} h d δ' σ' G2 H2 δ1 σ1 L =>
    src_tup (sqT_mono (L.ex.trans L.rel.sub) h) (d.mono L.ex)
  have listy : ∀ {δ1 δ2 : List Sl} {r : R}, SE Ω te W n δ (.ok r δ1) → (∀ v G1 H1, Rel Ω.K Ω.T δ1 σ G1 H1 → GoE δ δ1 σ G H G1 H1 → RV Ω.K G1 H1 σ H v r → ∃ a vs, v = .ref a ∧ SqL Ω.K H1 a vs ∧ Rel Ω.K Ω.T δ2 σ G1 H1 ∧ GoE δ δ2 σ G H G1 H1 ∧ LkOk δ δ2 lk ∧ (∀ δ' σ' G2 H2, Later Ω.K Ω.T δ2 σ G1 H1 δ' σ' G2 H2 → Src Ω.K G2 H2 (Itl Ω.K a) xs)) → (∀ J G' H', Rel Ω.K Ω.T δ2 σ G' H' → GoE δ δ2 σ G H G' H' → LkOk δ δ2 lk → (∀ δ' σ' G2 H2, Later Ω.K Ω.T δ2 σ G' H' δ' σ' G2 H2 → Src Ω.K G2 H2 J xs) → Rk J H') → iSeq Ω.K te σ H Rk := fun {δ1 δ2 r} h z post =>
    .inl (h σ G H _ hl Rl fun v G1 H1 R1 g1 rv => by
      obtain ⟨a, vs, e1, h1, R2, g2, l2, L⟩ := z v G1 H1 R1 g1 rv
      exact ⟨a, e1, ⟨vs, h1⟩, post _ G1 H1 R2 g2 l2 L⟩)
  unfold lockS at e
  split at e
  · cases e
    refine listy h (fun v G1 H1 R1 g1 rv => ?_) post
    cases (show Den Ω.K G1 v _ from rv) with
    | lst h1 t => exact ⟨_, _, rfl, .inl (.inl (R1.sub _ _ h1)), R1, g1, True.intro, fun δ' σ' G2 H2 L => fz Ω.K (H1 := H1) (.inl (.inl h1)) t _ _ _ _ _ _ L⟩
  · cases e
    refine listy h (fun v G1 H1 R1 g1 rv => ?_) post
    cases (show Den Ω.K G1 v _ from rv) with
    | rol h1 t => exact ⟨_, _, rfl, sqL_mono R1.sub h1, R1, g1, True.intro, fun δ' σ' G2 H2 L => fz Ω.K (H1 := H1) h1 t _ _ _ _ _ _ L⟩
  · cases e
    refine .inr (h σ G H _ hl Rl fun v G1 H1 R1 g1 rv => ?_)
    cases (show Den Ω.K G1 v _ from rv) with
    | tup h1 t => exact ⟨_, rfl, ⟨_, sqT_mono R1.sub h1⟩, post _ G1 H1 R1 g1 True.intro fun δ' σ' G2 H2 L => ft Ω.K (H1 := H1) h1 t _ _ _ _ _ _ L⟩
  · cases e
    refine listy h (fun v G1 H1 R1 g1 rv => ?_) post
    obtain ⟨a, vs, e1, z2, z3, z4, z5⟩ := rv
    refine ⟨a, vs, e1, .inl (.inl z2), R1, g1, True.intro, fun δ' σ' G2 H2 L => ?_⟩
    have no : ¬ Own δ1 σ a := fun z => by
      obtain ⟨o, q⟩ := Rl.live (g1.sub z)
      rw [z4] at q
      cases q
    exact src_list (.inl (.inl (L.keep a _ z2 no fun ps z => by cases z))) (z5.mono L.ex)
  · rename_i i
    split at e
    · rename_i ys eo
      cases e
      refine listy h (fun v G1 H1 R1 g1 rv => ?_) post
      obtain ⟨R2, g2⟩ := lock_rel R1 eo
      obtain ⟨a, vs, z1, z2, z3, z4⟩ := R1.own i _ (.inl eo)
      have rv : σ[i]? = some (some v) := rv
      rw [rv] at z1
      cases z1
      refine ⟨a, vs, rfl, .inl (.inl z2), R2, g2 _ _ _ g1, ⟨_, rfl, List.getElem?_set_self (lt_of_ow (.inl eo)), fun ys y => by rw [g1.lock i ys y] at eo; cases eo⟩, fun δ' σ' G2 H2 L => ?_⟩
      obtain ⟨l1, l2⟩ := L.lock i _ (List.getElem?_set_self (lt_of_ow (.inl eo)))
      obtain ⟨b, ws, y1, y2, y3, y4⟩ := L.rel.own i _ (.inr l1)
      rw [l2, rv] at y1
      cases y1
      exact src_list (.inl (.inl y2)) y4
    · rename_i ys eo
      cases e
      refine listy h (fun v G1 H1 R1 g1 rv => ?_) post
      obtain ⟨a, vs, z1, z2, z3, z4⟩ := R1.own i _ (.inr eo)
      have rv : σ[i]? = some (some v) := rv
      rw [rv] at z1
      cases z1
      refine ⟨a, vs, rfl, .inl (.inl z2), R1, g1, True.intro, fun δ' σ' G2 H2 L => ?_⟩
      obtain ⟨l1, l2⟩ := L.lock i _ eo
      obtain ⟨b, ws, y1, y2, y3, y4⟩ := L.rel.own i _ (.inr l1)
      rw [l2, rv] at y1
      cases y1
      exact src_list (.inl (.inl y2)) y4
    · rename_i ys eo
      cases e
      refine listy h (fun v G1 H1 R1 g1 rv => ?_) post
      obtain ⟨w, z1, z2⟩ := R1.val i _ eo
      have rv : σ[i]? = some (some v) := rv
      rw [rv] at z1
      cases z1
      cases z2 with
      | lst h1 t => exact ⟨_, _, rfl, .inl (.inl (R1.sub _ _ h1)), R1, g1, True.intro, fun δ' σ' G2 H2 L => fz Ω.K (H1 := H1) (.inl (.inl h1)) t _ _ _ _ _ _ L⟩
    · rename_i ys eo
      cases e
      refine .inr (h σ G H _ hl Rl fun v G1 H1 R1 g1 rv => ?_)
      obtain ⟨w, z1, z2⟩ := R1.val i _ eo
      have rv : σ[i]? = some (some v) := rv
      rw [rv] at z1
      cases z1
      cases z2 with
      | tup h1 t => exact ⟨_, rfl, ⟨_, sqT_mono R1.sub h1⟩, post _ G1 H1 R1 g1 True.intro fun δ' σ' G2 H2 L => ft Ω.K (H1 := H1) h1 t _ _ _ _ _ _ L⟩
    · cases e
  · cases e
theorem se_int1 (h : SE Ω te W n δ (.ok r δ1)) {m : Int} (e : r.see δ1 = some (.int m)) {σ : L2.St} {G H : Hp} {k : V → Hp → Prop} (hl : σ.length = n) (Rl : Rel Ω.K Ω.T δ σ G H)
    (q : ∀ G' H', Rel Ω.K Ω.T δ1 σ G' H' → GoE δ δ1 σ G H G' H' → k (.int m) H') : te σ H k := h σ G H _ hl Rl fun v G1 H1 R1 g1 rv => by
  rw [(rv.see R1 e).int]
  exact q G1 H1 R1 g1
theorem si_rng1 {m : Int} (h : SE Ω te W n δ (.ok r δ1)) (e : r.see δ1 = some (.int m)) (hm : -(big : Int) ≤ m ∧ m ≤ big) : SI Ω (iRng1 (tCons te tNil)) n δ (rngD 0 m.toNat) δ1 none := fun σ G H Rk hl Rl post =>
  se_int1 h e hl Rl fun G1 H1 R1 g1 => by
    have b : (big : Int) = 1000000 := rfl
    exact ⟨m, rfl, by omega, by omega, post _ G1 H1 R1 g1 True.intro fun _ _ _ _ _ => src_rng⟩
theorem si_rng2 {ta tb : TE} {ra rb : R} {i j : Int} (ha : SE Ω ta W n δ (.ok ra δ1)) (hb : SE Ω tb W n δ1 (.ok rb δ2)) (ea : ra.see δ2 = some (.int i)) (eb : rb.see δ2 = some (.int j)) (hm : -(big : Int) ≤ i ∧ i ≤ big ∧ -(big : Int) ≤ j ∧ j ≤ big) :
    SI Ω (iRng2 (tCons ta (tCons tb tNil))) n δ (rngD i (j - i).toNat) δ2 none := fun σ G H Rk hl Rl post =>
  se_two ha hb hl Rl fun x y G2 H2 R2 g2 rx ry => by
    have b : (big : Int) = 1000000 := rfl
    have ex := (rx.see R2 ea).int
    have ey := (ry.see R2 eb).int
    subst ex
    subst ey
    exact ⟨i, j, rfl, ⟨by omega, by omega, by omega, by omega⟩, post _ G2 H2 R2 g2 True.intro fun _ _ _ _ _ => src_rng⟩
end
end Mn

-- Mn13
set_option Elab.async false
set_option linter.all false
set_option maxRecDepth 100000
set_option autoImplicit false
namespace Mn
open PySem PySem.Spec L2

/-! ### a slot hidden, filled, shown again -/
/-- no list of one's own -/
def Sl.free : Sl → Bool
  | .own _ => false
  | .lock _ => false
  | _ => true
theorem Sl.no_ow {s : Sl} (h : s.free = true) {zs : List D} : ¬ Ow (some s) zs := fun z => by
  rcases z with z | z <;> (cases z; cases h)
section
variable {K : PySem.W.Frag} {T : List (Addr × Str)} {δ δ1 δ2 : List Sl} {σ : L2.St} {G H G1 H1 G2 H2 : Hp} {x : Nat} {s s' : Sl} {w w' : Option V} {a : Addr}
theorem own_hide (lx : x < δ.length) (h : s.free = true) {i : Nat} {b : Addr} (o : OwnAt (δ.set x s) (σ.set x w) i b) : i ≠ x ∧ OwnAt δ σ i b := by
  obtain ⟨⟨zs, z⟩, e⟩ := o
  rcases ow_set lx z with ⟨_, z⟩ | ⟨hj, z⟩
  · exact absurd z (Sl.no_ow h)
  · rw [List.getElem?_set_ne (Ne.symm hj)] at e
    exact ⟨hj, ⟨zs, z⟩, e⟩
theorem own_show {i : Nat} {b : Addr} (hi : i ≠ x) (o : OwnAt δ σ i b) : OwnAt (δ.set x s) (σ.set x w) i b := by
  obtain ⟨⟨zs, z⟩, e⟩ := o
  exact ⟨⟨zs, by rw [List.getElem?_set_ne (Ne.symm hi)]; exact z⟩, by rw [List.getElem?_set_ne (Ne.symm hi)]; exact e⟩
/-- only what is not owned matters little -/
theorem own_any (lx : x < δ.length) (h : s.free = true) (h' : s'.free = true) {b : Addr} : Own (δ.set x s) (σ.set x w) b → Own (δ.set x s') (σ.set x w') b := fun ⟨i, o⟩ => by
  obtain ⟨hi, o⟩ := own_hide lx h o
  exact ⟨i, own_show hi o⟩
theorem Rel.fill (Rl : Rel K T δ σ G H) (lx : x < δ.length) (h : s.free = true) (hv : ∀ d, s = .val d → ∃ v, w = some v ∧ Den K G v d) : Rel K T (δ.set x s) (σ.set x w) G H := by
  refine ⟨by rw [List.length_set, List.length_set]; exact Rl.len, Rl.sub, Rl.ntb, Rl.tab, fun j d q => ?_, fun j zs q => ?_, fun j k b o1 o2 => ?_⟩
  · by_cases hj : j = x
    · subst hj
      rw [List.getElem?_set_self lx] at q
      obtain ⟨v, e1, e2⟩ := hv d (Option.some.inj q)
      rw [List.getElem?_set_self (by rw [Rl.len]; exact lx), e1]
      exact ⟨v, rfl, e2⟩
    · rw [List.getElem?_set_ne (Ne.symm hj)] at q ⊢
      exact Rl.val j d q
  · rcases ow_set lx q with ⟨_, z⟩ | ⟨hj, z⟩
    · exact absurd z (Sl.no_ow h)
    · rw [List.getElem?_set_ne (Ne.symm hj)]
      exact Rl.own j zs z
  · exact Rl.sep j k b (own_hide lx h o1).2 (own_hide lx h o2).2
/-- a list that no slot holds is changed -/
theorem Rel.sideO (Rl : Rel K T δ σ G H) {o o' : HO} (h : H a = some o) (nt : ∀ ps, o ≠ .tbl ps) (nc : ∀ q, o ≠ LamX.CodeO a q) (g : G a = none) (no : ¬ Own δ σ a) : Rel K T δ σ G (upd H a o') := by
  have nl : ∀ b o, H b = some o → b ≠ a → upd H a o' b = some o := fun b o q z => by
    rw [upd_ne z]
    exact q
  refine ⟨Rl.len, fun b o q => nl b o (Rl.sub b o q) (fun z => by rw [z, g] at q; cases q), Rl.ntb, ?_, Rl.val, fun j zs q => ?_, Rl.sep⟩
  · intro p hp
    obtain ⟨ps, t1, t2, t3⟩ := Rl.tab p hp
    have np : p.1 ≠ a := fun z => by
      rw [z, h] at t1
      exact nt ps (Option.some.inj t1)
    refine ⟨ps, nl _ _ t1 np, t2, fun pos cv q => ?_⟩
    obtain ⟨c, q1, q2⟩ := t3 pos cv q
    refine ⟨c, q1, nl _ _ q2 fun z => ?_⟩
    rw [z, h] at q2
    exact nc _ (Option.some.inj q2)
  · obtain ⟨c, us, y1, y2, y3, y4⟩ := Rl.own j zs q
    exact ⟨c, us, y1, nl _ _ y2 (fun z => no ⟨j, ⟨zs, q⟩, by rw [← z]; exact y1⟩), y3, y4⟩
theorem Rel.side (Rl : Rel K T δ σ G H) {vs us : List V} (h : H a = some (.lst vs)) (g : G a = none) (no : ¬ Own δ σ a) : Rel K T δ σ G (upd H a (.lst us)) :=
  Rl.sideO h (fun ps z => by cases z) (fun q z => by cases z) g no
theorem GoE.side (g : GoE δ δ1 σ G H G1 H1) (h : H a = none) {o : HO} : GoE δ δ1 σ G H G1 (upd H1 a o) := by
  have ne : ∀ b o, H b = some o → b ≠ a := fun b o q z => by
    rw [z, h] at q
    cases q
  refine ⟨⟨g.go.ex, fun b o q n t => ?_, fun b o q => ?_, g.go.new, g.go.grow⟩, g.less, g.lock, g.fate⟩
  · rw [upd_ne (ne b o q)]
    exact g.go.keep b o q n t
  · rw [upd_ne (ne b o q)]
    exact g.go.live b o q
theorem GoE.un_own (R0 : Rel K T δ σ G H) (g : GoE δ δ1 σ G H G1 H1) (h : H a = none) : ¬ Own δ1 σ a := fun z => by
  obtain ⟨o, q⟩ := R0.live (g.sub z)
  rw [h] at q
  cases q
/-- what is of no slot and not for good is not for good later -/
theorem GoE.not_good (g : GoE δ δ1 σ G H G1 H1) {o : HO} (h : H a = some o) (hg : G a = none) (no : ¬ Own δ σ a) : G1 a = none := by
  cases q : G1 a with
  | none => rfl
  | some o' =>
    rcases g.go.new a o' q with z | z | z
    · rw [hg] at z; cases z
    · rw [h] at z; cases z
    · exact absurd z no
theorem GoE.hide (lx : x < δ.length) (ly : x < δ1.length) (h : s.free = true) (g : GoE (δ.set x s) δ1 (σ.set x w) G H G1 H1) : GoE (δ.set x .un) (δ1.set x .un) (σ.set x none) G H G1 H1 := by
  refine ⟨⟨g.go.ex, fun b o q n t => g.go.keep b o q (fun z => n (own_any lx h rfl z)) t, g.go.live, fun b o q => ?_, fun b q => ?_⟩, fun i zs q => ?_, fun i zs q => ?_, fun i a hx => ?_⟩
  · rcases g.go.new b o q with z | z | z
    · exact .inl z
    · exact .inr (.inl z)
    · exact .inr (.inr (own_any lx h rfl z))
  · obtain ⟨i, o⟩ := q
    obtain ⟨hi, o⟩ := own_hide (σ := σ.set x w) (w := none) ly (s := .un) rfl (by rw [List.set_set]; exact o)
    rcases g.go.grow b ⟨i, o⟩ with z | z
    · exact .inl (own_any lx h rfl z)
    · exact .inr z
  · rcases ow_set ly q with ⟨_, z⟩ | ⟨hj, z⟩
    · exact absurd z (Sl.no_ow rfl)
    · obtain ⟨ys, z⟩ := g.less i zs z
      rw [List.getElem?_set_ne (Ne.symm hj)] at z ⊢
      exact ⟨ys, z⟩
  · by_cases hi : i = x
    · subst hi
      rw [List.getElem?_set_self lx] at q
      cases q
    · rw [List.getElem?_set_ne (Ne.symm hi)] at q ⊢
      exact g.lock i zs (by rw [List.getElem?_set_ne (Ne.symm hi)]; exact q)
  · obtain ⟨hi, o⟩ := own_hide lx (s := .un) rfl hx
    rw [List.getElem?_set_ne (Ne.symm hi)]
    exact g.fate i a (own_show hi o)
theorem show_ok (R1 : Rel K T δ1 σ G1 H1) (lx : x < δ1.length) (ly : x < δ2.length) (es : δ1[x]? = some s) (ns : ∀ zs, s ≠ .lock zs) (R2 : Rel K T (δ2.set x .un) (σ.set x none) G2 H2) (g : GoE (δ1.set x .un) (δ2.set x .un) (σ.set x none) G1 H1 G2 H2) :
    Rel K T (δ2.set x s) σ G2 H2 ∧ GoE δ1 (δ2.set x s) σ G1 H1 G2 H2 := by
  have hide : ∀ b, Own (δ1.set x .un) (σ.set x none) b → Own δ1 σ b := fun b ⟨i, o⟩ => ⟨i, (own_hide lx (s := .un) rfl o).2⟩
  have sown : ∀ zs, Ow (some s) zs → ∃ a vs, σ[x]? = some (some (.ref a)) ∧ H2 a = some (.lst vs) ∧ G2 a = none ∧ DenL K G2 vs zs ∧ ¬ Own (δ2.set x .un) (σ.set x none) a := fun zs z => by
    obtain ⟨a, vs, z1, z2, z3, z4⟩ := R1.own x zs (by rw [es]; exact z)
    have no : ¬ Own (δ1.set x .un) (σ.set x none) a := fun ⟨i, o⟩ => by
      obtain ⟨hi, o⟩ := own_hide lx (s := .un) rfl o
      exact hi (R1.sep i x a o ⟨⟨zs, by rw [es]; exact z⟩, z1⟩)
    exact ⟨a, vs, z1, g.go.keep a _ z2 no (fun ps z => by cases z), g.not_good z2 z3 no, z4.mono g.go.ex, fun z => no (g.sub z)⟩
  have away : ∀ (i : Nat), i ≠ x → ∀ zs, Ow (δ2.set x s)[i]? zs → Ow (δ2.set x .un)[i]? zs ∧ (σ.set x none)[i]? = σ[i]? := fun i hi zs z => by
    rw [List.getElem?_set_ne (Ne.symm hi)] at z
    rw [List.getElem?_set_ne (Ne.symm hi), List.getElem?_set_ne (Ne.symm hi)]
    exact ⟨z, rfl⟩
  have sep : ∀ (i : Nat) (b : Addr), i ≠ x → OwnAt (δ2.set x s) σ i b → ¬ OwnAt (δ2.set x s) σ x b := fun i b hi ⟨⟨zs, z⟩, e⟩ ⟨⟨zs', z'⟩, e'⟩ => by
    rw [List.getElem?_set_self ly] at z'
    obtain ⟨a, vs, y1, y2, y3, y4, y5⟩ := sown zs' z'
    rw [e'] at y1
    cases y1
    obtain ⟨z1, z2⟩ := away i hi zs z
    exact y5 ⟨i, ⟨zs, z1⟩, by rw [z2]; exact e⟩
  refine ⟨⟨?_, R2.sub, R2.ntb, R2.tab, fun j d q => ?_, fun j zs q => ?_, fun j k b o1 o2 => ?_⟩, ⟨⟨g.go.ex, fun b o q n t => g.go.keep b o q (fun z => n (hide b z)) t, g.go.live, fun b o q => ?_, fun b ⟨i, ⟨zs, z⟩, e⟩ => .inl ?_⟩, fun i zs z => ?_, fun i zs z => ?_, fun i a hx => ?_⟩⟩
  · have := R2.len
    rw [List.length_set, List.length_set] at this
    rw [List.length_set]
    exact this
  · by_cases hj : j = x
    · subst hj
      rw [List.getElem?_set_self ly] at q
      obtain ⟨v, y1, y2⟩ := R1.val j d (by rw [es]; exact q)
      exact ⟨v, y1, y2.mono g.go.ex⟩
    · have z := R2.val j d (by rw [List.getElem?_set_ne (Ne.symm hj)] at q ⊢; exact q)
      rw [List.getElem?_set_ne (Ne.symm hj)] at z
      exact z
  · by_cases hj : j = x
    · subst hj
      rw [List.getElem?_set_self ly] at q
      obtain ⟨a, vs, y1, y2, y3, y4, y5⟩ := sown zs q
      exact ⟨a, vs, y1, y2, y3, y4⟩
    · obtain ⟨z1, z2⟩ := away j hj zs q
      have z := R2.own j zs z1
      rw [z2] at z
      exact z
  · by_cases hj : j = x
    · by_cases hk : k = x
      · rw [hj, hk]
      · rw [hj] at o1
        exact absurd o1 (sep k b hk o2)
    · by_cases hk : k = x
      · rw [hk] at o2
        exact absurd o2 (sep j b hj o1)
      · obtain ⟨⟨zs, z⟩, e⟩ := o1
        obtain ⟨⟨zs', z'⟩, e'⟩ := o2
        obtain ⟨y1, y2⟩ := away j hj zs z
        obtain ⟨y3, y4⟩ := away k hk zs' z'
        exact R2.sep j k b ⟨⟨zs, y1⟩, by rw [y2]; exact e⟩ ⟨⟨zs', y3⟩, by rw [y4]; exact e'⟩
  · rcases g.go.new b o q with z | z | z
    · exact .inl z
    · exact .inr (.inl z)
    · exact .inr (.inr (hide b z))
  · by_cases hi : i = x
    · subst hi
      rw [List.getElem?_set_self ly] at z
      exact ⟨i, ⟨zs, by rw [es]; exact z⟩, e⟩
    · obtain ⟨y1, y2⟩ := away i hi zs z
      exact hide b (g.sub ⟨i, ⟨zs, y1⟩, by rw [y2]; exact e⟩)
  · by_cases hi : i = x
    · subst hi
      rw [List.getElem?_set_self ly] at z
      exact ⟨zs, by rw [es]; exact z⟩
    · obtain ⟨y1, y2⟩ := away i hi zs z
      obtain ⟨us, y⟩ := g.less i zs y1
      rw [List.getElem?_set_ne (Ne.symm hi)] at y
      exact ⟨us, y⟩
  · have hi : i ≠ x := fun y => by
      subst y
      rw [es] at z
      exact ns zs (Option.some.inj z)
    have y := g.lock i zs (by rw [List.getElem?_set_ne (Ne.symm hi)]; exact z)
    rw [List.getElem?_set_ne (Ne.symm hi)] at y ⊢
    exact y
  · by_cases hi : i = x
    · subst hi
      rw [List.getElem?_set_self ly]
      obtain ⟨⟨zs, z⟩, _⟩ := hx
      rw [es] at z
      exact .inl ⟨zs, z⟩
    · have y := g.fate i a (own_show hi hx)
      rw [List.getElem?_set_ne (Ne.symm hi)] at y ⊢
      exact y
theorem unlock_ok {lk : Option (Nat × Sl)} (g1 : GoE δ δ1 σ G H G1 H1) (l : LkOk δ δ1 lk) (g2 : GoE δ1 δ2 σ G1 H1 G2 H2) (R2 : Rel K T δ2 σ G2 H2) : Rel K T (unlockS δ2 lk) σ G2 H2 ∧ GoE δ (unlockS δ2 lk) σ G H G2 H2 := by
  cases lk with
  | none => exact ⟨R2, g1.trans g2⟩
  | some p =>
    obtain ⟨i, s⟩ := p
    obtain ⟨xs, e, z1, z2⟩ := l
    subst e
    have o := g2.lock i xs z1
    have li := lt_of_ow (.inr o : Ow δ2[i]? xs)
    have ow : ∀ (j : Nat) (zs : List D), Ow (δ2.set i (.own xs))[j]? zs → Ow δ2[j]? zs := fun j zs q => by
      rcases ow_set li q with ⟨hj, z⟩ | ⟨_, z⟩
      · subst hj
        rcases z with z | z
        · cases z
          exact .inr o
        · cases z
      · exact z
    have g := g1.trans g2
    refine ⟨⟨by show σ.length = (δ2.set i (.own xs)).length; rw [List.length_set]; exact R2.len, R2.sub, R2.ntb, R2.tab, fun j d q => ?_, fun j zs q => R2.own j zs (ow j zs q), fun j k b ⟨⟨zs, z1⟩, e1⟩ ⟨⟨zs', z2⟩, e2⟩ => R2.sep j k b ⟨⟨zs, ow j zs z1⟩, e1⟩ ⟨⟨zs', ow k zs' z2⟩, e2⟩⟩, ⟨⟨g.go.ex, g.go.keep, g.go.live, g.go.new, fun b ⟨j, ⟨zs, z⟩, e⟩ => g.go.grow b ⟨j, ⟨zs, ow j zs z⟩, e⟩⟩, fun j zs q => g.less j zs (ow j zs q), fun j zs q => ?_, fun j x hx => ?_⟩⟩
    · have q : (δ2.set i (.own xs))[j]? = some (.val d) := q
      by_cases hj : j = i
      · subst hj
        rw [List.getElem?_set_self li] at q
        cases q
      · rw [List.getElem?_set_ne (Ne.symm hj)] at q
        exact R2.val j d q
    · have hj : j ≠ i := fun y => by
        subst y
        exact z2 zs q
      show (δ2.set i (.own xs))[j]? = _
      rw [List.getElem?_set_ne (Ne.symm hj)]
      exact g.lock j zs q
    · show (∃ ys, Ow (δ2.set i (.own xs))[j]? ys) ∨ _
      by_cases hj : j = i
      · subst hj
        exact .inl ⟨xs, .inl (List.getElem?_set_self li)⟩
      · rw [List.getElem?_set_ne (Ne.symm hj)]
        exact g.fate j x hx
end

/-! ### a comprehension -/
section
variable {Ω : Wd} {W : WX} {n : Nat} {δ δ1 δ2 : List Sl} {wi : TI} {tt : TT} {te : TE} {xs ys : List D} {lk : Option (Nat × Sl)} {x : Nat} {s : Sl}
theorem se_lc {fe : List Sl → Option EO} {fc : List Sl → Option (Bool × List Sl)} (hi : SI Ω wi n δ xs δ1 lk) (hc : ∀ δ b δ', fc δ = some (b, δ') → ST Ω tt n δ b δ') (he : ∀ δ r δ', fe δ = some (.ok r δ') → SE Ω te W0 n δ (.ok r δ'))
    (e : lcL fe fc x xs (δ1.set x .un) [] = some (ys, δ2)) (es : δ1[x]? = some s) (ns : ∀ zs, s ≠ .lock zs) : SE Ω (tLc wi (gName x) tt te [x]) W n δ (.ok (.new ys) (unlockS (δ2.set x s) lk)) := by
  intro σ G H Q hl Rl post
  refine hi σ G H _ hl Rl fun J G1 H1 R1 g1 lko src p hp => ?_
  have l1 : x < δ1.length := by
    rcases Nat.lt_or_ge x δ1.length with z | z
    · exact z
    · rw [List.getElem?_eq_none z] at es
      cases es
  have lx' : x < σ.length := by rw [R1.len]; exact l1
  have ew : wipe σ [x] = σ.set x none := rfl
  have R1w : Rel Ω.K Ω.T (δ1.set x .un) (σ.set x none) G1 H1 := R1.fill l1 rfl (fun d z => by cases z)
  refine ⟨fun i m Hc => i ≤ xs.length ∧ m = xs.length - i ∧ ∃ δi acc av Gi, lcL fe fc x (xs.drop i) δi acc = some (ys, δ2) ∧ Rel Ω.K Ω.T (δi.set x .un) (σ.set x none) Gi Hc ∧ GoE (δ1.set x .un) (δi.set x .un) (σ.set x none) G1 H1 Gi Hc ∧ Hc p = some (.lst av) ∧ Gi p = none ∧ DenL Ω.K Gi av acc,
    ⟨_, Nat.zero_le _, rfl, δ1.set x .un, [], [], G1, e, by rw [List.set_set]; exact R1w.laid hp, by rw [List.set_set]; exact GoE.laid hp, upd_same, R1.gfree hp, .nil⟩, ?_⟩
  rintro i m Hc ⟨hi', hm, δi, acc, av, Gi, el, Ri, gi, hD, hG, dn⟩
  have li : x < δi.length := by
    have := Ri.len
    rw [List.length_set, List.length_set] at this
    rw [← this]
    exact lx'
  have sr : Src Ω.K Gi Hc J xs := by
    refine src _ _ _ _ ⟨Ri, gi.go.ex, fun b o q no t => gi.go.keep b o q (fun ⟨j, z⟩ => no ⟨j, (own_hide l1 (s := .un) rfl z).2⟩) t, fun j zs q => ?_⟩
    have hj : j ≠ x := fun y => by
      subst y
      rw [es] at q
      exact ns zs (Option.some.inj q)
    exact ⟨gi.lock j zs (by rw [List.getElem?_set_ne (Ne.symm hj)]; exact q), List.getElem?_set_ne (Ne.symm hj)⟩
  by_cases hx : i < xs.length
  · refine .inr ⟨sr.go i hx, fun H' => ∃ m', m' < m ∧ _, fun H' z => z, fun v H' y => ?_⟩
    obtain ⟨eh, d, e1, dv⟩ := sr.yl i v H' y hx
    subst eh
    rw [List.drop_eq_getElem_cons hx] at el
    have ed : xs[i] = d := by
      rw [List.getElem?_eq_getElem hx] at e1
      exact Option.some.inj e1
    rw [ed] at el
    have Rv : Rel Ω.K Ω.T (δi.set x (.val d)) (σ.set x (some v)) Gi H' := by
      have := Ri.fill (x := x) (s := .val d) (w := some v) (by rw [List.length_set]; exact li) rfl (fun d' z => by cases z; exact ⟨v, rfl, dv⟩)
      rw [List.set_set, List.set_set] at this
      exact this
    have lv : (σ.set x (some v)).length = n := by rw [List.length_set]; exact hl
    have gw : GoE (δi.set x .un) (δi.set x .un) (σ.set x none) Gi H' Gi H' := GoE.refl
    show wipe ((wipe σ [x]).set x (some v)) [x] = wipe σ [x] ∧ tt ((wipe σ [x]).set x (some v)) H' _
    rw [ew, List.set_set]
    refine ⟨by show (σ.set x (some v)).set x none = σ.set x none; rw [List.set_set], ?_⟩
    unfold lcL at el
    split at el
    · rename_i δ3 ec
      split at el
      · rename_i r δ4 er
        split at el
        · rename_i dd δ5 ef
          split at el
          · rename_i hz
            refine hc _ _ _ ec _ Gi H' _ lv Rv fun G3 H3 R3 g3 => ?_
            rw [if_pos rfl]
            refine he _ _ _ er _ G3 H3 _ lv R3 fun y G4 H4 R4 g4 rv => ?_
            obtain ⟨G5, R5, g5, dn5, _⟩ := frz_ok R3 g4 R4 rv ef
            have g35 := g3.trans g5
            have no : ¬ Own (δi.set x (.val d)) (σ.set x (some v)) p := fun z => GoE.un_own R1w gi hp (own_any li (s := .val d) (s' := .un) rfl rfl z)
            have hD5 := g35.go.keep p _ hD no (fun ps z => by cases z)
            have hG5 := g35.not_good hD hG no
            have l5 : x < δ5.length := by rw [← R5.len, List.length_set]; exact lx'
            have gh := GoE.hide li l5 (s := .val d) rfl g35
            have R5w : Rel Ω.K Ω.T (δ5.set x .un) (σ.set x none) G5 H4 := by
              have := R5.fill (x := x) (s := .un) (w := none) l5 rfl (fun d z => by cases z)
              rw [List.set_set] at this
              exact this
            have gt := gi.trans gh
            refine ⟨av, hD5, by rw [dn.length]; exact lt_big hz, ⟨_, ?_, by omega, rfl, δ5, acc ++ [dd], av ++ [y], G5, el, R5w.side hD5 hG5 (GoE.un_own R1w gt hp), gt.side hp, upd_same, hG5, (dn.mono g35.go.ex).append (.cons dn5 .nil)⟩⟩
            omega
          · cases el
        · cases el
      · cases el
    · rename_i δ3 ec
      refine hc _ _ _ ec _ Gi H' _ lv Rv fun G3 H3 R3 g3 => ?_
      rw [if_neg (by decide)]
      have no : ¬ Own (δi.set x (.val d)) (σ.set x (some v)) p := fun z => GoE.un_own R1w gi hp (own_any li (s := .val d) (s' := .un) rfl rfl z)
      have hD5 := g3.go.keep p _ hD no (fun ps z => by cases z)
      have hG5 := g3.not_good hD hG no
      have l5 : x < δ3.length := by rw [← R3.len, List.length_set]; exact lx'
      have gh := GoE.hide li l5 (s := .val d) rfl g3
      have R5w : Rel Ω.K Ω.T (δ3.set x .un) (σ.set x none) G3 H3 := by
        have := R3.fill (x := x) (s := .un) (w := none) l5 rfl (fun d z => by cases z)
        rw [List.set_set] at this
        exact this
      refine ⟨_, ?_, by omega, rfl, δ3, acc, av, G3, el, R5w, gi.trans gh, hD5, hG5, dn.mono g3.go.ex⟩
      omega
    · cases el
  · have hi2 : i = xs.length := by omega
    subst hi2
    rw [List.drop_length] at el
    unfold lcL at el
    cases el
    obtain ⟨R6, g6⟩ := show_ok R1 l1 li es ns Ri gi
    obtain ⟨R7, g7⟩ := unlock_ok g1 lko g6 R6
    exact .inl ⟨sr.st, post _ Gi Hc R7 g7 ⟨p, av, rfl, hD, hG, g1.go.back hp, dn⟩⟩
end
end Mn

-- Mn14
set_option Elab.async false
set_option linter.all false
set_option maxRecDepth 100000
set_option autoImplicit false
namespace Mn
open PySem PySem.Spec L2

/-! ### a display of a dict -/
section
variable {K : PySem.W.Frag} {G : Hp}
theorem DenK.any {k : Key} : ∀ {vs : List (Key × V)} {ds : List (Key × D)}, DenK K G vs ds → (vs.any fun kv => decide (kv.1 = k)) = (ds.any fun kv => decide (kv.1 = k))
  | _, _, .nil => rfl
  | _, _, .cons _ t => by
    rw [List.any_cons, List.any_cons, t.any]
theorem DenK.mapK {k : Key} {v : V} {d : D} (h : Den K G v d) : ∀ {vs : List (Key × V)} {ds : List (Key × D)}, DenK K G vs ds → DenK K G (vs.map fun kv => if kv.1 = k then (kv.1, v) else kv) (ds.map fun kv => if kv.1 = k then (kv.1, d) else kv)
  | _, _, .nil => .nil
  | _, _, .cons (k := k') q t => by
    rw [List.map_cons, List.map_cons]
    dsimp only
    by_cases c : k' = k
    · rw [if_pos c, if_pos c]
      exact .cons h (t.mapK h)
    · rw [if_neg c, if_neg c]
      exact .cons q (t.mapK h)
theorem DenK.app {k : Key} {v : V} {d : D} (h : Den K G v d) : ∀ {vs : List (Key × V)} {ds : List (Key × D)}, DenK K G vs ds → DenK K G (vs ++ [(k, v)]) (ds ++ [(k, d)])
  | _, _, .nil => .cons h .nil
  | _, _, .cons q t => .cons q (t.app h)
theorem DenK.put {k : Key} {v : V} {d : D} (h : Den K G v d) {vs : List (Key × V)} {ds : List (Key × D)} (t : DenK K G vs ds) : DenK K G (putK vs k v) (putD ds k d) := by
  unfold putK putD
  rw [t.any]
  split
  · exact t.mapK h
  · exact t.app h
theorem DenK.fold : ∀ {vs : List (Key × V)} {ds : List (Key × D)}, DenK K G vs ds → ∀ {as : List (Key × V)} {bs : List (Key × D)}, DenK K G as bs → DenK K G (mergeK as vs) (ds.foldl (fun acc kv => putD acc kv.1 kv.2) bs)
  | _, _, .nil, _, _, q => q
  | _, _, .cons h t, _, _, q => t.fold (q.put h)
theorem DenK.length : ∀ {vs : List (Key × V)} {ds : List (Key × D)}, DenK K G vs ds → vs.length = ds.length
  | _, _, .nil => rfl
  | _, _, .cons _ t => congrArg Nat.succ t.length
end
section
variable {Ω : Wd} {W : WX} {n : Nat} {δ δ1 δ2 δ3 δ4 : List Sl} {tk tv : TE} {rk rv : R}
def SPr (Ω : Wd) (trs : List (TE × TE)) (n : Nat) (δ : List Sl) (kvs : List (Key × D)) (δ' : List Sl) : Prop := ∀ (σ : L2.St) (G H : Hp) (Q : List (V × V) → Hp → Prop), σ.length = n → Rel Ω.K Ω.T δ σ G H →
  (∀ kv G' H', Rel Ω.K Ω.T δ' σ G' H' → GoE δ δ' σ G H G' H' → DenK Ω.K G' kv kvs → Q (kv.map fun kv => (kV kv.1, kv.2)) H') → tPairs trs σ H Q
theorem sp_nil : SPr Ω [] n δ [] δ := fun σ G H Q hl Rl post => post [] G H Rl GoE.refl .nil
theorem sp_cons {trs : List (TE × TE)} {kvs : List (Key × D)} {kd d : D} {k : Key} (h1 : SE Ω tk W n δ (.ok rk δ1)) (h2 : SE Ω tv W n δ1 (.ok rv δ2)) (ek : rk.see δ2 = some kd) (ek2 : keyD kd = some k) (ef : frz δ2 rv = some (d, δ3)) (h3 : SPr Ω trs n δ3 kvs δ4) :
    SPr Ω ((tk, tv) :: trs) n δ ((k, d) :: kvs) δ4 := fun σ G H Q hl Rl post => by
  refine se_two h1 h2 hl Rl fun x y G2 H2 R2 g2 rx ry => ?_
  obtain ⟨G3, R3, g3, dn, _⟩ := frz_ok Rl g2 R2 ry ef
  have sk := key_eq (rx.see R2 ek) ek2
  subst sk
  exact h3 σ G3 H2 _ hl R3 fun kv G4 H4 R4 g4 dk => post ((k, y) :: kv) G4 H4 R4 (g3.trans g4) (.cons (dn.mono g4.go.ex) dk)
theorem se_dis {trs : List (TE × TE)} {kvs : List (Key × D)} (h : SPr Ω trs n δ kvs δ1) (hl : kvs.length ≤ 15) : SE Ω (tDisp trs) W n δ (.ok (.val (.dct (kvs.foldl (fun acc kv => putD acc kv.1 kv.2) []))) δ1) := by
  intro σ G H Q hn Rl post p hp
  refine h σ G _ _ hn (Rl.laid hp) fun kv G1 H1 R1 g1 dk => ?_
  have g0 : GoE δ δ1 σ G H G1 H1 := (GoE.laid hp).trans g1
  have no1 : ¬ Own δ σ p := fun z => by
    obtain ⟨o, q⟩ := Rl.live z
    rw [hp] at q
    cases q
  have hD := g1.go.keep p _ upd_same no1 (fun ps z => by cases z)
  have hG := g1.not_good upd_same (Rl.gfree hp) no1
  have no2 := GoE.un_own Rl g0 hp
  have sG : Same G1 (upd G1 p (.dK (mergeK [] kv))) := same_new2 hG
  refine ⟨hD, kv, rfl, by rw [dk.length]; exact hl, ?_⟩
  have hsub : ∀ b o, upd G1 p (.dK (mergeK [] kv)) b = some o → b ≠ p → G1 b = some o := fun b o q hb => by
    rw [upd_ne hb] at q
    exact q
  have nl : ∀ b o, H1 b = some o → b ≠ p → upd H1 p (.dK (mergeK [] kv)) b = some o := fun b o q z => by
    rw [upd_ne z]
    exact q
  refine post _ (upd G1 p (.dK (mergeK [] kv))) _ ⟨R1.len, fun b o q => ?_, fun b ps q => ?_, ?_, fun j d q => ?_, fun j zs q => ?_, R1.sep⟩ ⟨⟨g0.go.ex.trans sG, (g0.side hp).go.keep, (g0.side hp).go.live, fun b o q => ?_, g0.go.grow⟩, g0.less, g0.lock, fun i x hx => (g0.fate i x hx).imp id fun ⟨o, z⟩ => ⟨o, sG _ _ z⟩⟩ (Den.dct upd_same ((dk.fold .nil).mono sG))
  · by_cases hb : b = p
    · rw [hb, upd_same] at q ⊢
      exact q
    · exact nl b o (R1.sub b o (hsub b o q hb)) hb
  · by_cases hb : b = p
    · rw [hb, upd_same] at q
      cases q
    · exact R1.ntb b ps (hsub b _ q hb)
  · intro t ht
    obtain ⟨ps, t1, t2, t3⟩ := R1.tab t ht
    have np : t.1 ≠ p := fun z => by
      rw [z, hD] at t1
      cases t1
    refine ⟨ps, nl _ _ t1 np, t2, fun pos cv q => ?_⟩
    obtain ⟨c, q1, q2⟩ := t3 pos cv q
    refine ⟨c, q1, nl _ _ q2 fun z => ?_⟩
    rw [z, hD] at q2
    cases q2
  · obtain ⟨v, y1, y2⟩ := R1.val j d q
    exact ⟨v, y1, y2.mono sG⟩
  · obtain ⟨c, us, y1, y2, y3, y4⟩ := R1.own j zs q
    have nc : c ≠ p := fun z => no2 ⟨j, ⟨zs, q⟩, by rw [← z]; exact y1⟩
    exact ⟨c, us, y1, nl _ _ y2 nc, by rw [upd_ne nc]; exact y3, y4.mono sG⟩
  · by_cases hb : b = p
    · rw [hb]
      exact .inr (.inl hp)
    · exact g0.go.new b o (hsub b o q hb)
theorem se_dis0 : SE Ω tDNewK W n δ (.ok (.val (.dct [])) δ) := fun σ G H Q hl Rl post p hp =>
  post _ _ _ (Rl.laidG hp (fun ps z => by cases z)) (GoE.laidG Rl hp) (Den.dct upd_same .nil)
end
end Mn

-- Mn14b
set_option Elab.async false
set_option linter.all false
set_option maxRecDepth 100000
set_option autoImplicit false
namespace Mn
open PySem PySem.Spec L2

/-! ### sorted sets of ints -/
theorem heap_with (D : Nat) (o : Obj) (ho : o.isFreed = false) : ∃ h : Heap, h.get? D = some o := by
  have mk : ∀ n : Nat, ∃ h : Heap, h.objs.size = n := by
    intro n
    induction n with
    | zero => exact ⟨{ objs := #[] }, rfl⟩
    | succ n ih =>
      obtain ⟨h, e⟩ := ih
      exact ⟨h.push o, by rw [Heap.size_push, e]⟩
  obtain ⟨h, e⟩ := mk D
  refine ⟨h.push o, ?_⟩
  rw [← e]
  exact Heap.get?_push_size _ ho
theorem setO_code {w : World} {a : Addr} {S : Int → Bool} {n : Nat} (q : Str) : SetO w a S n ≠ LamX.CodeO a q := fun z => by
  unfold SetO LamX.CodeO at z
  have z := HO.ext.inj z
  obtain ⟨h, e⟩ := heap_with a { cls := .none, data := .fields #[.none, .str q 0] } rfl
  have y := congrFun z h
  have : SetR w h a S n := by
    rw [y]
    exact ⟨_, _, 0, e, rfl, rfl⟩
  obtain ⟨o, es, ep, t, h1, _, h3, _⟩ := this
  rw [e] at h1
  cases h1
  cases h3
theorem setO_tbl {w : World} {a : Addr} {S : Int → Bool} {n : Nat} (ps : Array Value) : SetO w a S n ≠ .tbl ps := fun z => by
  unfold SetO at z
  cases z
/-- strictly ascending -/
abbrev Asc (l : List Int) : Prop := l.Pairwise (· < ·)
theorem insI_mem {x y : Int} : ∀ {l : List Int}, y ∈ insI x l ↔ y = x ∨ y ∈ l
  | [] => by simp [insI]
  | z :: l => by
    unfold insI
    split
    · simp
    · split
      · rename_i h
        subst h
        simp
      · simp only [List.mem_cons, insI_mem (l := l)]
        constructor
        · rintro (h | h | h)
          · exact .inr (.inl h)
          · exact .inl h
          · exact .inr (.inr h)
        · rintro (h | h | h)
          · exact .inr (.inl h)
          · exact .inl h
          · exact .inr (.inr h)
theorem insI_asc {x : Int} : ∀ {l : List Int}, Asc l → Asc (insI x l)
  | [], _ => by simp [insI, Asc]
  | z :: l, h => by
    obtain ⟨h1, h2⟩ := List.pairwise_cons.mp h
    unfold insI
    split
    · rename_i c
      refine List.pairwise_cons.mpr ⟨fun y hy => ?_, h⟩
      rcases List.mem_cons.mp hy with e | e
      · rw [e]; exact c
      · have := h1 y e; omega
    · split
      · exact h
      · rename_i c1 c2
        refine List.pairwise_cons.mpr ⟨fun y hy => ?_, insI_asc h2⟩
        rcases insI_mem.mp hy with e | e
        · rw [e]; omega
        · exact h1 y e
theorem srtI_gen : ∀ (xs acc : List Int), Asc acc → Asc (xs.foldl (fun acc x => insI x acc) acc) ∧ ∀ y, y ∈ xs.foldl (fun acc x => insI x acc) acc ↔ y ∈ xs ∨ y ∈ acc
  | [], acc, h => ⟨h, fun y => by simp⟩
  | x :: xs, acc, h => by
    obtain ⟨h1, h2⟩ := srtI_gen xs (insI x acc) (insI_asc h)
    refine ⟨h1, fun y => ?_⟩
    rw [List.foldl_cons, h2 y, insI_mem]
    simp only [List.mem_cons]
    constructor
    · rintro (h | h | h)
      · exact .inl (.inr h)
      · exact .inl (.inl h)
      · exact .inr h
    · rintro ((h | h) | h)
      · exact .inr (.inl h)
      · exact .inl h
      · exact .inr (.inr h)
theorem srtI_asc (xs : List Int) : Asc (srtI xs) := (srtI_gen xs [] List.Pairwise.nil).1
theorem srtI_mem (xs : List Int) (y : Int) : y ∈ srtI xs ↔ y ∈ xs := by
  have := (srtI_gen xs [] List.Pairwise.nil).2 y
  simpa [srtI] using this
theorem asc_eq : ∀ {a b : List Int}, Asc a → Asc b → (∀ y, y ∈ a ↔ y ∈ b) → a = b
  | [], [], _, _, _ => rfl
  | [], y :: b, _, _, h => by have := (h y).mpr List.mem_cons_self; simp at this
  | x :: a, [], _, _, h => by have := (h x).mp List.mem_cons_self; simp at this
  | x :: a, y :: b, h1, h2, h => by
    obtain ⟨p1, p2⟩ := List.pairwise_cons.mp h1
    obtain ⟨q1, q2⟩ := List.pairwise_cons.mp h2
    have exy : x = y := by
      rcases List.mem_cons.mp ((h x).mp List.mem_cons_self) with e | e
      · exact e
      · rcases List.mem_cons.mp ((h y).mpr List.mem_cons_self) with e' | e'
        · exact e'.symm
        · have a1 := q1 x e
          have a2 := p1 y e'
          omega
    subst exy
    rw [asc_eq p2 q2 fun z => ?_]
    constructor
    · intro hz
      rcases List.mem_cons.mp ((h z).mp (List.mem_cons_of_mem _ hz)) with e | e
      · have := p1 z hz
        omega
      · exact e
    · intro hz
      rcases List.mem_cons.mp ((h z).mpr (List.mem_cons_of_mem _ hz)) with e | e
      · have := q1 z hz
        omega
      · exact e
theorem asInts_app : ∀ {a b : List D} {ns : List Int}, asInts (a ++ b) = some ns → ∃ x y, asInts a = some x ∧ asInts b = some y ∧ ns = x ++ y
  | [], b, ns, e => ⟨[], ns, rfl, e, rfl⟩
  | d :: a, b, ns, e => by
    cases d <;> simp only [List.cons_append, asInts] at e <;> first | (cases e; done) | skip
    obtain ⟨ms, q1, q2⟩ := Option.map_eq_some_iff.mp e
    obtain ⟨x, y, h1, h2, h3⟩ := asInts_app q1
    rename_i i
    refine ⟨i :: x, y, by simp only [asInts, h1]; rfl, h2, ?_⟩
    rw [← q2, h3] <;> rfl
theorem asInts_len : ∀ {a : List D} {ns : List Int}, asInts a = some ns → ns.length = a.length
  | [], ns, e => by cases e; rfl
  | d :: a, ns, e => by
    cases d <;> simp only [asInts] at e <;> first | (cases e; done) | skip
    obtain ⟨ms, q1, q2⟩ := Option.map_eq_some_iff.mp e
    rw [← q2, List.length_cons, List.length_cons, asInts_len q1]
theorem lcL_pre {fe : List Sl → Option EO} {fc : List Sl → Option (Bool × List Sl)} {x : Nat} : ∀ {xs : List D} {δ : List Sl} {acc ys : List D} {δ' : List Sl}, lcL fe fc x xs δ acc = some (ys, δ') → ∃ zs, ys = acc ++ zs
  | [], δ, acc, ys, δ', e => by
    unfold lcL at e
    cases e
    exact ⟨[], by simp⟩
  | d :: xs, δ, acc, ys, δ', e => by
    unfold lcL at e
    split at e
    · split at e
      · split at e
        · split at e
          · obtain ⟨zs, h⟩ := lcL_pre e
            exact ⟨_ :: zs, by rw [h, List.append_assoc] <;> rfl⟩
          · cases e
        · cases e
      · cases e
    · exact lcL_pre e
    · cases e
section
variable {Ω : Wd} {W : WX} {n : Nat} {δ δ1 δ2 : List Sl} {wi : TI} {tt : TT} {te : TE} {xs ys : List D} {lk : Option (Nat × Sl)} {x : Nat} {s : Sl}
theorem ints_den {K : PySem.W.Frag} {G : Hp} : ∀ ns : List Int, DenL K G (ns.map V.int) (ns.map D.int)
  | [] => .nil
  | n :: ns => .cons (.int n) (ints_den ns)
theorem se_srt {fe : List Sl → Option EO} {fc : List Sl → Option (Bool × List Sl)} {ns : List Int} (hi : SI Ω wi n δ xs δ1 lk) (hc : ∀ δ b δ', fc δ = some (b, δ') → ST Ω tt n δ b δ') (he : ∀ δ r δ', fe δ = some (.ok r δ') → SE Ω te W0 n δ (.ok r δ'))
    (e : lcL fe fc x xs (δ1.set x .un) [] = some (ys, δ2)) (es : δ1[x]? = some s) (nl : ∀ zs, s ≠ .lock zs) (ei : asInts ys = some ns) (hl64 : ns.length < 64) :
    SE Ω (tCB (rSortedSet Ω.w) (tCons (tSK (kitI Ω.P Ω.w) wi (gName x) tt te [x]) tNil)) W n δ (.ok (.new ((srtI ns).map D.int)) (unlockS (δ2.set x s) lk)) := by
  intro σ G H Q hl Rl post
  refine hi σ G H _ hl Rl fun J G1 H1 R1 g1 lko src p hp => ?_
  have l1 : x < δ1.length := by
    rcases Nat.lt_or_ge x δ1.length with z | z
    · exact z
    · rw [List.getElem?_eq_none z] at es
      cases es
  have lx' : x < σ.length := by rw [R1.len]; exact l1
  have ew : wipe σ [x] = σ.set x none := rfl
  have R1w : Rel Ω.K Ω.T (δ1.set x .un) (σ.set x none) G1 H1 := R1.fill l1 rfl (fun d z => by cases z)
  refine ⟨fun i m Hc => i ≤ xs.length ∧ m = xs.length - i ∧ ∃ δi acc ms S c Gi, lcL fe fc x (xs.drop i) δi acc = some (ys, δ2) ∧ Rel Ω.K Ω.T (δi.set x .un) (σ.set x none) Gi Hc ∧ GoE (δ1.set x .un) (δi.set x .un) (σ.set x none) G1 H1 Gi Hc ∧
      Hc p = some (SetO Ω.w p S c) ∧ Gi p = none ∧ asInts acc = some ms ∧ (∀ k, S k = true ↔ k ∈ ms) ∧ c ≤ ms.length,
    ⟨_, Nat.zero_le _, rfl, δ1.set x .un, [], [], fun _ => false, 0, G1, e, by rw [List.set_set]; exact R1w.laid hp, by rw [List.set_set]; exact GoE.laid hp, upd_same, R1.gfree hp, rfl, fun k => by simp, Nat.le_refl _⟩, ?_⟩
  rintro i m Hc ⟨hi', hm, δi, acc, ms, S, c, Gi, el, Ri, gi, hD, hG, em, hS, hcm⟩
  have li : x < δi.length := by
    have := Ri.len
    rw [List.length_set, List.length_set] at this
    rw [← this]
    exact lx'
  have sr : Src Ω.K Gi Hc J xs := by
    refine src _ _ _ _ ⟨Ri, gi.go.ex, fun b o q no t => gi.go.keep b o q (fun ⟨j, z⟩ => no ⟨j, (own_hide l1 (s := .un) rfl z).2⟩) t, fun j zs q => ?_⟩
    have hj : j ≠ x := fun y => by
      subst y
      rw [es] at q
      exact nl zs (Option.some.inj q)
    exact ⟨gi.lock j zs (by rw [List.getElem?_set_ne (Ne.symm hj)]; exact q), List.getElem?_set_ne (Ne.symm hj)⟩
  by_cases hx : i < xs.length
  · refine .inr ⟨sr.go i hx, fun H' => ∃ m', m' < m ∧ _, fun H' z => z, fun v H' y => ?_⟩
    obtain ⟨eh, d, e1, dv⟩ := sr.yl i v H' y hx
    subst eh
    rw [List.drop_eq_getElem_cons hx] at el
    have ed : xs[i] = d := by
      rw [List.getElem?_eq_getElem hx] at e1
      exact Option.some.inj e1
    rw [ed] at el
    have Rv : Rel Ω.K Ω.T (δi.set x (.val d)) (σ.set x (some v)) Gi H' := by
      have := Ri.fill (x := x) (s := .val d) (w := some v) (by rw [List.length_set]; exact li) rfl (fun d' z => by cases z; exact ⟨v, rfl, dv⟩)
      rw [List.set_set, List.set_set] at this
      exact this
    have lv : (σ.set x (some v)).length = n := by rw [List.length_set]; exact hl
    show wipe ((wipe σ [x]).set x (some v)) [x] = wipe σ [x] ∧ tt ((wipe σ [x]).set x (some v)) H' _
    rw [ew, List.set_set]
    refine ⟨by show (σ.set x (some v)).set x none = σ.set x none; rw [List.set_set], ?_⟩
    unfold lcL at el
    split at el
    · rename_i δ3 ec
      split at el
      · rename_i r δ4 er
        split at el
        · rename_i dd δ5 ef
          split at el
          · rename_i hz
            obtain ⟨zs, ez⟩ := lcL_pre el
            obtain ⟨ms', _, em2, _, _⟩ := asInts_app (by rw [ez] at ei; exact ei)
            obtain ⟨ms0, ks, em0, ek, ems⟩ := asInts_app em2
            rw [em] at em0
            cases em0
            obtain ⟨cc, rfl, rfl⟩ : ∃ cc, dd = .int cc ∧ ks = [cc] := by
              cases dd <;> simp only [asInts] at ek <;> first | (cases ek; done) | skip
              cases ek
              exact ⟨_, rfl, rfl⟩
            refine hc _ _ _ ec _ Gi H' _ lv Rv fun G3 H3 R3 g3 => ?_
            rw [if_pos rfl]
            refine he _ _ _ er _ G3 H3 _ lv R3 fun y G4 H4 R4 g4 rv => ?_
            obtain ⟨G5, R5, g5, dn5, _⟩ := frz_ok R3 g4 R4 rv ef
            have g35 := g3.trans g5
            have no : ¬ Own (δi.set x (.val d)) (σ.set x (some v)) p := fun z => GoE.un_own R1w gi hp (own_any li (s := .val d) (s' := .un) rfl rfl z)
            have hD5 := g35.go.keep p _ hD no setO_tbl
            have hG5 := g35.not_good hD hG no
            have l5 : x < δ5.length := by rw [← R5.len, List.length_set]; exact lx'
            have gh := GoE.hide li l5 (s := .val d) rfl g35
            have R5w : Rel Ω.K Ω.T (δ5.set x .un) (σ.set x none) G5 H4 := by
              have := R5.fill (x := x) (s := .un) (w := none) l5 rfl (fun d z => by cases z)
              rw [List.set_set] at this
              exact this
            have gt := gi.trans gh
            cases dn5
            have lm : ms.length = acc.length := asInts_len em
            have la : ms'.length ≤ ns.length := by
              have h1 := asInts_len ei
              have h2 := asInts_len em2
              rw [ez, List.length_append] at h1
              omega
            have lms : ms.length + 1 ≤ ns.length := by
              rw [ems, List.length_append] at la
              exact la
            refine ⟨(S, c), _, hD5, ⟨cc, rfl, by show c + 1 < 4096; omega, rfl⟩, ⟨_, ?_, by omega, rfl, δ5, acc ++ [.int cc], ms ++ [cc], _, _, G5, el, R5w.sideO hD5 setO_tbl (fun q => setO_code q) hG5 (GoE.un_own R1w gt hp), gt.side hp, upd_same, hG5, by rw [em2, ems], fun k => ?_, ?_⟩⟩
            · omega
            · simp only [Bool.or_eq_true, decide_eq_true_eq, List.mem_append, List.mem_singleton, hS k]
            · rw [List.length_append]
              show (if S cc = true then c else c + 1) ≤ ms.length + 1
              split <;> omega
          · cases el
        · cases el
      · cases el
    · rename_i δ3 ec
      refine hc _ _ _ ec _ Gi H' _ lv Rv fun G3 H3 R3 g3 => ?_
      rw [if_neg (by decide)]
      have no : ¬ Own (δi.set x (.val d)) (σ.set x (some v)) p := fun z => GoE.un_own R1w gi hp (own_any li (s := .val d) (s' := .un) rfl rfl z)
      have hD5 := g3.go.keep p _ hD no setO_tbl
      have hG5 := g3.not_good hD hG no
      have l5 : x < δ3.length := by rw [← R3.len, List.length_set]; exact lx'
      have gh := GoE.hide li l5 (s := .val d) rfl g3
      have R5w : Rel Ω.K Ω.T (δ3.set x .un) (σ.set x none) G3 H3 := by
        have := R3.fill (x := x) (s := .un) (w := none) l5 rfl (fun d z => by cases z)
        rw [List.set_set] at this
        exact this
      refine ⟨_, ?_, by omega, rfl, δ3, acc, ms, S, c, G3, el, R5w, gi.trans gh, hD5, hG5, em, hS, hcm⟩
      omega
    · cases el
  · have hi2 : i = xs.length := by omega
    subst hi2
    rw [List.drop_length] at el
    unfold lcL at el
    cases el
    rw [em] at ei
    obtain rfl := Option.some.inj ei
    obtain ⟨R6, g6⟩ := show_ok R1 l1 li es nl Ri gi
    obtain ⟨R7, g7⟩ := unlock_ok g1 lko g6 R6
    refine .inl ⟨sr.st, ⟨p, S, c, rfl, hD, by omega, fun ks q h1 h2 h3 h4 => ?_⟩⟩
    have eks : ks = srtI _ := asc_eq h1 (srtI_asc _) fun y => by rw [h2 y, hS y, srtI_mem]
    subst eks
    exact post _ Gi _ (R7.laid h4) (g7.trans (GoE.laid h4)) ⟨q, _, rfl, upd_same, R7.gfree h4, g7.go.back h4, ints_den _⟩
theorem se_srs {r : R} {ds : List D} {ns : List Int} (h : SE Ω te W n δ (.ok r δ1)) (es : r.see δ1 = some (.lst ds)) (ei : asInts ds = some ns) (hl64 : ns.length < 64) :
    SE Ω (tCB (rSortedSet Ω.w) (tCons (tCB (rSetOfI Ω.w Ω.K) (tCons te tNil)) tNil)) W n δ (.ok (.new ((srtI ns).map D.int)) δ1) := by
  intro σ G H Q hl Rl post
  refine h σ G H _ hl Rl fun v G1 H1 R1 g1 rv => ?_
  obtain ⟨a, vs, rfl, h1, h2⟩ := (rv.see R1 es).seqL R1.sub
  obtain rfl := h2.ints_eq ei
  refine ⟨a, ns, rfl, h1, by omega, fun p c hp hc => ⟨p, _, c, rfl, upd_same, by omega, fun ks q k1 k2 k3 k4 => ?_⟩⟩
  have eks : ks = srtI ns := asc_eq k1 (srtI_asc ns) fun y => by rw [k2 y, srtI_mem]; simp
  subst eks
  have R2 : Rel Ω.K Ω.T δ1 σ G1 _ := R1.laid (o := SetO Ω.w p (fun j => decide (j ∈ ns)) c) hp
  exact post _ G1 _ (R2.laid k4) ((g1.trans (GoE.laid hp)).trans (GoE.laid k4)) ⟨q, _, rfl, upd_same, R2.gfree k4, g1.go.back ((GoE.laid (δ := δ1) (σ := σ) (G := G1) (o := SetO Ω.w p (fun j => decide (j ∈ ns)) c) hp).go.back k4), ints_den _⟩
end
end Mn

-- Mn15
set_option Elab.async false
set_option linter.all false
set_option maxRecDepth 100000
set_option maxHeartbeats 1000000
set_option autoImplicit false
namespace Mn
open PySem PySem.Spec L2

/-! ## what the evaluator says of an expression, the reading asks -/
structure EvOk (Ω : Wd) (cf : Nat → List Sl → Option CO) (tf : EO → Option EO) (gd : Gd) (fsp : Nat → Sp) (tsp : (XK → TE) → TE) (n : Nat) : Prop where
  fn : ∀ f, fsp f = SpF Ω (cf f)
  mth : gd.mth = Ω.Γ.mth
  prp : gd.prp = Ω.Γ.prp
  sub : gd.sub = Ω.Γ.sub
  nc : gd.nc = Ω.Γ.ocl.length
  own : ∃ lv, Owns Ω fsp lv
  gl : ∀ (g : Nat) (d : D), gd.gl[g]? = some d → ∀ G, Den Ω.K G (Ω.gv g) d
  td : ∀ (t : XK → TE) (W : WX) (δ : List Sl) (o o' : EO), (∀ E : XK, SE Ω (t E) (fun c d _ H => E c d H) n δ o) → tf o = some o' → SE Ω (tsp t) W n δ o'

section
variable {Ω : Wd} {W : WX} {n : Nat} {δ δ1 δ2 : List Sl}
theorem PostE.from {σ : L2.St} {G H G1 H1 : Hp} {Q : VK} {o : EO} (post : PostE Ω W σ δ G H Q o) (g1 : GoE δ δ1 σ G H G1 H1) : PostE Ω W σ δ1 G1 H1 Q o := by
  cases o with
  | ok r δ' => exact fun v G2 H2 R2 g2 rv => post v G2 H2 R2 (g1.trans g2) (rv.back g1)
  | exc c d δ' => exact fun v x G2 H2 R2 g2 hx dn => post v x G2 H2 R2 (g1.trans g2) hx dn
theorem tys_read {K : PySem.W.Frag} {σ : L2.St} {H : Hp} : ∀ (ts : List String) (Q : List V → Hp → Prop), Q (ts.map V.ty) H → tTys ts σ H Q
  | [], Q, q => q
  | t :: ts, Q, q => by
    show tTys ts σ H fun xs H2 => Q (V.ty t :: xs) H2
    exact tys_read (K := K) ts _ q
theorem See.laid {K : PySem.W.Frag} {G H : Hp} {v : V} {d : D} {p : Addr} {o : HO} (h : See K G H v d) (hp : H p = none) : See K G (upd H p o) v d := by
  rcases h with h | ⟨a, vs, xs, rfl, rfl, h1, h2⟩
  · exact .inl h
  · exact .inr ⟨a, vs, xs, rfl, rfl, same_new2 hp _ _ h1, h2⟩
theorem tys_cls : ∀ ts : List String, Paired ClsV (ts.map V.ty) (ts.map Value.type)
  | [] => .nil
  | t :: ts => .cons (.ty t) (tys_cls ts)
end

section
variable {Ω : Wd} {cf : Nat → List Sl → Option CO} {tf : EO → Option EO} {gd : Gd} {fsp : Nat → Sp} {tsp : (XK → TE) → TE} {n : Nat}
theorem es_one (e : E) (es : Es) (h : ∀ x xs, es ≠ .cons x xs) : es = .nil := by
  cases es with
  | nil => rfl
  | cons x xs => exact absurd rfl (h x xs)
theorem ev_one {es : Es} {δ δ' : List Sl} {r : R} (e : evEs cf tf gd es δ = some (.ok [r] δ')) : ∃ a, es = .cons a .nil ∧ evE cf tf gd a δ = some (.ok r δ') := by
  cases es with
  | nil => simp only [evEs] at e; cases e
  | cons a es =>
    simp only [evEs] at e
    split at e
    · rename_i r1 δ1 ea
      split at e
      · rename_i rs δ2 eb
        cases e
        cases es with
        | nil => simp only [evEs] at eb; cases eb; exact ⟨a, rfl, ea⟩
        | cons b es =>
          simp only [evEs] at eb
          split at eb <;> first | (cases eb; done) | skip
          split at eb <;> cases eb
      · cases e
      · cases e
    · cases e
    · cases e
theorem ev_two {es : Es} {δ δ' : List Sl} {r r' : R} (e : evEs cf tf gd es δ = some (.ok [r, r'] δ')) : ∃ a b δ1, es = .cons a (.cons b .nil) ∧ evE cf tf gd a δ = some (.ok r δ1) ∧ evE cf tf gd b δ1 = some (.ok r' δ') := by
  cases es with
  | nil => simp only [evEs] at e; cases e
  | cons a es =>
    simp only [evEs] at e
    split at e
    · rename_i r1 δ1 ea
      split at e
      · rename_i rs δ2 eb
        cases e
        obtain ⟨b, rfl, h⟩ := ev_one eb
        exact ⟨a, b, δ1, rfl, ea, h⟩
      · cases e
      · cases e
    · cases e
    · cases e
mutual
theorem seE (ok : EvOk Ω cf tf gd fsp tsp n) : ∀ (e : E) (W : WX) (δ : List Sl) (o : EO), evE cf tf gd e δ = some o → SE Ω (rd Ω.P Ω.w Ω.K Ω.Γ Ω.gv fsp tsp e W).1 W n δ o
  | .var i p, W, δ, o, e => by
    simp only [evE] at e
    simp only [rd]
    split at e
    · rename_i d q
      cases e
      intro σ G H Q hl Rl post
      obtain ⟨v, h1, h2⟩ := Rl.val i _ q
      exact ⟨v, h1, post v G H Rl GoE.refl h2⟩
    · rename_i xs q
      cases e
      intro σ G H Q hl Rl post
      obtain ⟨a, vs, h1, _⟩ := Rl.own i xs (.inl q)
      exact ⟨_, h1, post _ G H Rl GoE.refl h1⟩
    · rename_i xs q
      cases e
      intro σ G H Q hl Rl post
      obtain ⟨a, vs, h1, _⟩ := Rl.own i xs (.inr q)
      exact ⟨_, h1, post _ G H Rl GoE.refl h1⟩
    · cases e
  | .con c k p, W, δ, o, e => by
    simp only [evE] at e
    simp only [rd]
    split at e <;> first | (cases e; done) | skip
    · cases e; exact fun σ G H Q hl Rl post => post _ G H Rl GoE.refl (.int _)
    · cases e; exact fun σ G H Q hl Rl post => post _ G H Rl GoE.refl (.str _)
    · cases e; exact fun σ G H Q hl Rl post => post _ G H Rl GoE.refl (.bl _)
    · cases e; exact fun σ G H Q hl Rl post => post _ G H Rl GoE.refl .non
  | .glo g p, W, δ, o, e => by
    simp only [evE] at e
    simp only [rd]
    split at e
    · rename_i d q
      cases e
      exact fun σ G H Q hl Rl post => post _ G H Rl GoE.refl (ok.gl g d q G)
    · cases e
  | .bin op a b p, W, δ, o, e => by
    simp only [evE] at e
    simp only [rd]
    split at e
    · rename_i ra δ1 ea
      split at e
      · rename_i rb δ2 eb
        split at e
        · rename_i x y sx sy
          split at e
          · rename_i r er
            cases e
            exact se_op (seE ok a W _ _ ea) (seE ok b W _ _ eb) sx sy fun σ G H x y Q R hx hy nx => binO_ok ok.fn ok.mth R hx hy er nx
          · cases e
        · cases e
      · cases e
    · cases e
  | .neg a p, W, δ, o, e => by
    simp only [evE] at e
    simp only [rd]
    split at e
    · rename_i ra δ1 ea
      split at e
      · rename_i i sx
        cases e
        exact se_un (seE ok a W _ _ ea) sx fun σ G H x Q R hx nx => ⟨i, hx.int, nx _ G H R GoE.refl (.int _)⟩
      · cases e
    · cases e
  | .nt a p, W, δ, o, e => by
    simp only [evE] at e
    simp only [rd]
    split at e
    · rename_i ra δ1 ea
      split at e
      · rename_i b sx
        cases e
        exact fun σ G H Q hl Rl post => seE ok a W _ _ ea σ G H _ hl Rl fun v G1 H1 R1 g1 rv => ⟨b, (rv.see R1 sx).bl, post _ G1 H1 R1 g1 (.bl _)⟩
      · cases e
    · cases e
  | .bop op es p, W, δ, o, e => by
    simp only [evE] at e
    simp only [rd]
    exact seB ok op es W δ o e
  | .cmp op a b p, W, δ, o, e => by
    simp only [evE] at e
    simp only [rd]
    split at e
    · rename_i ra δ1 ea
      split at e
      · rename_i rb δ2 eb
        split at e
        · rename_i x y sx sy
          split at e
          · rename_i r er
            cases e
            unfold cmpR at er
            split at er
            · rename_i hv
              simp only [Bool.and_eq_true] at hv
              cases ra <;> first | (cases hv.1; done) | skip
              cases rb <;> first | (cases hv.2; done) | skip
              cases sx
              cases sy
              exact fun σ G H Q hl Rl post => se_two (seE ok a W _ _ ea) (seE ok b W _ _ eb) hl Rl fun x y G2 H2 R2 g2 rx ry => cmpO_ok ok.fn ok.mth R2 rx ry er fun G3 H3 R3 g3 => post _ G3 H3 R3 (g2.trans g3) (.bl _)
            · exact se_op (seE ok a W _ _ ea) (seE ok b W _ _ eb) sx sy fun σ G H x y Q R hx hy nx => .inl (cmp_ok R hx hy er (nx _ G H R GoE.refl (.bl _)))
          · cases e
        · cases e
      · cases e
    · cases e
  | .ife c a b p, W, δ, o, e => by
    simp only [evE] at e
    simp only [rd]
    split at e
    · rename_i nf
      split at e
      · rename_i rc δ1 ec
        split at e
        · rename_i sc
          exact fun σ G H Q hl Rl post => stE ok c W _ _ _ nf ec true sc σ G H _ hl Rl fun G1 H1 R1 g1 => by
            rw [if_pos rfl]
            exact seE ok a W _ _ e σ G1 H1 Q hl R1 (post.from g1)
        · rename_i sc
          exact fun σ G H Q hl Rl post => stE ok c W _ _ _ nf ec false sc σ G H _ hl Rl fun G1 H1 R1 g1 => by
            rw [if_neg (by decide)]
            exact seE ok b W _ _ e σ G1 H1 Q hl R1 (post.from g1)
        · cases e
      · cases e
    · cases e
  | .lst es p, W, δ, o, e => by
    simp only [evE] at e
    simp only [rd]
    split at e
    · rename_i rs δ1 ea
      split at e
      · rename_i ds δ2 ef
        split at e
        · rename_i hz
          cases e
          exact se_lst (seA ok es W _ _ ea) ef hz
        · cases e
      · cases e
    · rename_i c d δ1 ea
      cases e
      exact fun σ G H Q hl Rl post => seA ok es W _ _ ea σ G H _ hl Rl post
    · cases e
  | .tup es k p, W, δ, o, e => by
    simp only [evE] at e
    simp only [rd]
    split at e
    · rename_i rs δ1 ea
      split at e
      · rename_i ds δ2 ef
        split at e
        · rename_i hz
          cases e
          exact se_tup (seA ok es W _ _ ea) ef hz
        · cases e
      · cases e
    · rename_i c d δ1 ea
      cases e
      exact fun σ G H Q hl Rl post => seA ok es W _ _ ea σ G H _ hl Rl post
    · cases e
  | .dis .nil p, W, δ, o, e => by
    simp only [evE, evP] at e
    simp only [rd]
    cases e
    exact se_dis0
  | .dis (.cons k v ps) p, W, δ, o, e => by
    rw [evE] at e
    simp only [rd]
    split at e
    · rename_i kvs δ1 ep
      split at e
      · rename_i hz
        cases e
        have := seP ok (.cons k v ps) W _ _ _ ep
        simp only [rdP] at this
        exact se_dis this hz
      · cases e
    · cases e
  | .idx a b p, W, δ, o, e => by
    simp only [evE] at e
    simp only [rd]
    split at e
    · rename_i ra δ1 ea
      split at e
      · rename_i rb δ2 eb
        split at e
        · rename_i x y sx sy
          split at e
          · rename_i r er
            cases e
            exact se_op (seE ok a W _ _ ea) (seE ok b W _ _ eb) sx sy fun σ G H x y Q R hx hy nx => ix_ok R hx hy er fun v dn => nx v G H R GoE.refl dn
          · cases e
        · cases e
      · cases e
    · cases e
  | .sli a lo hi q p, W, δ, o, e => by
    simp only [evE] at e
    simp only [rd]
    split at e
    · rename_i ra δ1 ea
      split at e
      · rename_i l δ2 el
        split at e
        · rename_i h δ3 eh
          split at e
          · rename_i x sx
            split at e
            · rename_i r er
              cases e
              refine fun σ G H Q hl Rl post => seE ok a W _ _ ea σ G H _ hl Rl fun v G1 H1 R1 g1 rv => ?_
              refine seO ok lo W _ _ _ el σ G1 H1 _ hl R1 fun G2 H2 R2 g2 => ?_
              refine seO ok hi W _ _ _ eh σ G2 H2 _ hl R2 fun G3 H3 R3 g3 => ?_
              have g13 := g2.trans g3
              exact sl_ok R3 ((rv.stay Rl g1 g13).see R3 sx) er fun u G4 H4 R4 g4 ru => post u G4 H4 R4 ((g1.trans g13).trans g4) (ru.back (g1.trans g13))
            · cases e
          · cases e
        · cases e
      · cases e
    · cases e
  | .rev a k p1 p2 q p, W, δ, o, e => by
    simp only [evE] at e
    simp only [rd]
    split at e
    · rename_i ra δ1 ea
      split at e
      · rename_i xs sx
        cases e
        refine fun σ G H Q hl Rl post => seE ok a W _ _ ea σ G H _ hl Rl fun v G1 H1 R1 g1 rv => ?_
        obtain ⟨b, vs, rfl, h1, h2⟩ := (rv.see R1 sx).seqL R1.sub
        exact ⟨b, vs, rfl, h1, fun p hp => post _ G1 _ (R1.laid hp) (g1.trans (GoE.laid hp)) ⟨p, _, rfl, upd_same, R1.gfree hp, g1.go.back hp, h2.reverse⟩⟩
      · cases e
    · cases e
  | .call f q es p, W, δ, o, e => by
    simp only [evE] at e
    simp only [rd]
    rw [ok.fn f]
    split at e
    · rename_i rs δ1 ea
      exact se_call (seA ok es W _ _ ea) e
    · rename_i c d δ1 ea
      cases e
      exact fun σ G H Q hl Rl post => seA ok es W _ _ ea σ G H _ hl Rl post
    · cases e
  | .callk f q ks es p, W, δ, o, e => by
    simp only [evE] at e
    simp only [rd]
    rw [ok.fn f]
    split at e
    · rename_i rs δ1 ea
      exact se_call (seA ok es W _ _ ea) e
    · cases e
  | .bi b q es p, W, δ, o, e => by
    simp only [evE] at e
    simp only [rd]
    split at e
    · rename_i rs δ1 ea
      split at e
      · rename_i ds es'
        split at e
        · rename_i r er
          cases e
          exact fun σ G H Q hl Rl post => seA ok es W _ _ ea σ G H _ hl Rl fun vs G1 H1 R1 g1 rvs => biO_ok ok.fn ok.mth R1 (sees_ok R1 rvs es') er fun u G4 H4 R4 g4 ru => post u G4 H4 R4 (g1.trans g4) (ru.back g1)
        · cases e
      · cases e
    · cases e
  | .isi a t tp q p, W, δ, o, e => by
    simp only [evE] at e
    simp only [rd]
    split at e
    · rename_i ra δ1 ea
      split at e
      · rename_i b eb
        cases e
        obtain ⟨d, e1, e2⟩ := Option.bind_eq_some_iff.mp eb
        exact fun σ G H Q hl Rl post => seE ok a W _ _ ea σ G H _ hl Rl fun v G1 H1 R1 g1 rv => isi_ok R1.sub (rv.see R1 e1) e2 (post _ G1 H1 R1 g1 (.bl _))
      · cases e
    · cases e
  | .isiT a ts k tp q p, W, δ, o, e => by
    simp only [evE] at e
    simp only [rd]
    split at e
    · rename_i hts
      obtain ⟨hts, hn⟩ := hts
      split at e
      · rename_i ra δ1 ea
        split at e
        · rename_i b eb
          cases e
          obtain ⟨d, e1, e2⟩ := Option.bind_eq_some_iff.mp eb
          refine fun σ G H Q hl Rl post => seE ok a W _ _ ea σ G H _ hl Rl fun v G1 H1 R1 g1 rv => ?_
          refine tys_read (K := Ω.K) (ts.map (·.1)) _ ?_
          refine ⟨by rw [List.length_map, List.length_map]; exact le_big hts, fun p hp => ?_⟩
          have R2 : Rel Ω.K Ω.T δ1 σ G1 (upd H1 p (.tup ((ts.map (·.1)).map V.ty))) := R1.laid hp
          obtain ⟨m, q1, q2⟩ := isis_ok R2.sub (rv.see R1 e1 |>.laid hp) e2 (by cases ts with | nil => exact absurd rfl hn | cons t ts => simp)
          exact ⟨v, p, _, _, _, b, rfl, upd_same, tys_cls _, ty_ok R2.sub (rv.see R1 e1 |>.laid hp) q1, q2, post _ G1 _ R2 (g1.trans (GoE.laid hp)) (.bl _)⟩
        · cases e
      · cases e
    · cases e
  | .me m o' q es p, W, δ, o, e => by
    simp only [evE] at e
    simp only [rd]
    split at e
    · rename_i ro δ1 eo
      split at e
      · rename_i hr
        split at e
        · rename_i rs δ2 ea
          have ho := seE ok o' W _ _ eo
          unfold meD at e
          split at e
          · obtain ⟨a, rfl, ea'⟩ := ev_one ea
            simp only [rdL, rdMe]
            exact se_append ho hr (seE ok a W _ _ ea') e
          · obtain ⟨a, b, δ3, rfl, ea', eb'⟩ := ev_two ea
            simp only [rdL, rdMe]
            exact se_insert ho hr (seE ok a W _ _ ea') (seE ok b W _ _ eb') e
          · obtain ⟨a, b, δ3, rfl, ea', eb'⟩ := ev_two ea
            simp only [rdL, rdMe]
            exact se_get (rc := .val .non) (tc := noE) (δ4 := []) ho hr (seE ok a W _ _ ea') (seE ok b W _ _ eb') e
          · obtain ⟨a, rfl, ea'⟩ := ev_one ea
            simp only [rdL, rdMe]
            exact se_pop ho hr (seE ok a W _ _ ea') e
          · obtain ⟨a, rfl, ea'⟩ := ev_one ea
            simp only [rdL, rdMe]
            split at e
            · rename_i y ej
              cases e
              exact se_join ho (seE ok a W _ _ ea') ej
            · cases e
          · cases e
        · cases e
      · cases e
    · cases e
  | .lc elt x xp it c sc p, W, δ, o, e => by
    simp only [evE] at e
    simp only [rd]
    split at e
    · rename_i xs δ1 lk ei
      split at e
      · rename_i ys δ2 el
        split at e
        · cases e
        · rename_i s ns es
          cases e
          exact se_lc (seI ok it W0 _ _ _ _ ei) (fun δ b δ' ec => seC ok c W0 _ _ _ ec) (fun δ r δ' ee => seE ok elt W0 _ _ ee) el es (fun zs z => ns zs (by rw [← z]))
        · cases e
      · cases e
    · cases e
  | .srt q elt x xp it c sc p1 p, W, δ, o, e => by
    simp only [evE] at e
    simp only [rd]
    split at e
    · rename_i xs δ1 lk ei
      split at e
      · rename_i ys δ2 el
        split at e
        · cases e
        · rename_i s ns en es ei'
          split at e
          · rename_i hz
            cases e
            exact se_srt (seI ok it W0 _ _ _ _ ei) (fun δ b δ' ec => seC ok c W0 _ _ _ ec) (fun δ r δ' ee => seE ok elt W0 _ _ ee) el es (fun zs z => en zs (by rw [← z])) ei' hz
          · cases e
        · cases e
      · cases e
    · cases e
  | .srs q1 q2 a p1 p, W, δ, o, e => by
    simp only [evE] at e
    simp only [rd]
    split at e
    · rename_i r δ1 ea
      split at e
      · rename_i xs sx
        split at e
        · rename_i ns ei
          split at e
          · rename_i hz
            cases e
            exact se_srs (seE ok a W _ _ ea) sx ei hz
          · cases e
        · cases e
      · cases e
    · cases e
  | .att a f fld p, W, δ, o, e => by
    simp only [evE] at e
    simp only [rd]
    split at e
    · rename_i ra δ1 ea
      split at e
      · rename_i d eb
        cases e
        obtain ⟨dx, e1, e2⟩ := Option.bind_eq_some_iff.mp eb
        refine fun σ G H Q hl Rl post => seE ok a W _ _ ea σ G H _ hl Rl fun v G1 H1 R1 g1 rv => ?_
        unfold attD at e2
        split at e2
        · split at e2
          · rename_i hp
            have hd := (rv.see R1 e1).obj
            cases hd with
            | obj k1 k2 k3 =>
              obtain ⟨u, z1, z2⟩ := k3.lookup e2
              exact ⟨_, _, _, _, u, rfl, R1.sub _ _ k1, by rw [← ok.prp]; exact List.contains_iff_mem.mp hp, z1, post u G1 H1 R1 g1 z2⟩
          · cases e2
        · cases e2
      · cases e
    · cases e
  | .isc a c cp q p, W, δ, o, e => by
    simp only [evE] at e
    simp only [rd]
    split at e
    · rename_i ra δ1 ea
      split at e
      · rename_i b eb
        cases e
        obtain ⟨d, e1, e2⟩ := Option.bind_eq_some_iff.mp eb
        obtain ⟨lv, ow⟩ := ok.own
        exact fun σ G H Q hl Rl post => seE ok a W _ _ ea σ G H _ hl Rl fun v G1 H1 R1 g1 rv => isc_ok ow ok.sub ok.nc R1.sub (rv.see R1 e1) e2 (post _ G1 H1 R1 g1 (.bl _))
      · cases e
    · cases e
  | .fst es p, W, δ, o, e => by
    simp only [evE] at e
    simp only [rd]
    split at e
    · rename_i rs δ1 ea
      split at e
      · rename_i xs ex
        split at e
        · rename_i hz
          cases e
          refine fun σ G H Q hl Rl post => seJ ok es W _ _ _ ea xs ex Str.empty (by rw [cat_empty2]; exact hz) σ G H _ hl Rl fun G1 H1 R1 g1 => ?_
          rw [cat_empty2]
          exact post _ G1 H1 R1 g1 (.str _)
        · cases e
      · cases e
    · cases e
  | .fmt a rp p, W, δ, o, e => by
    simp only [evE] at e
    simp only [rd]
    split at e
    · rename_i ra δ1 ea
      split at e
      · rename_i x eb
        cases e
        obtain ⟨d, e1, e2⟩ := Option.bind_eq_some_iff.mp eb
        refine fun σ G H Q hl Rl post => ?_
        cases rp with
        | true => exact seE ok a W _ _ ea σ G H _ hl Rl fun v G1 H1 R1 g1 rv => fmt_ok (rp := true) (rv.see R1 e1) e2 (post _ G1 H1 R1 g1 (.str _))
        | false => exact seE ok a W _ _ ea σ G H _ hl Rl fun v G1 H1 R1 g1 rv => fmt_ok (rp := false) (rv.see R1 e1) e2 (post _ G1 H1 R1 g1 (.str _))
      · cases e
    · cases e
  | .told f q body ar sc lp p, W, δ, o, e => by
    simp only [evE] at e
    simp only [rd]
    split at e
    · rename_i o1 eo
      exact ok.td _ W δ o1 o (fun E => seE ok body _ _ _ eo) e
    · cases e
termination_by e => (sizeOf e, 0)
theorem stE (ok : EvOk Ω cf tf gd fsp tsp n) : ∀ (e : E) (W : WX) (δ : List Sl) (r : R) (δ1 : List Sl), nIf e = true → evE cf tf gd e δ = some (.ok r δ1) → ∀ b, (r.see δ1).bind truD = some b → ST Ω (rd Ω.P Ω.w Ω.K Ω.Γ Ω.gv fsp tsp e W).2 n δ b δ1
  | .var i p, W, δ, r, δ1, nf, e, b, s => by have z := seE ok (.var i p) W _ _ e; simp only [rd] at z ⊢; exact st_of z s
  | .con c k p, W, δ, r, δ1, nf, e, b, s => by have z := seE ok (.con c k p) W _ _ e; simp only [rd] at z ⊢; exact st_of z s
  | .glo g p, W, δ, r, δ1, nf, e, b, s => by have z := seE ok (.glo g p) W _ _ e; simp only [rd] at z ⊢; exact st_of z s
  | .bin op x y p, W, δ, r, δ1, nf, e, b, s => by have z := seE ok (.bin op x y p) W _ _ e; simp only [rd] at z ⊢; exact st_of z s
  | .neg x p, W, δ, r, δ1, nf, e, b, s => by have z := seE ok (.neg x p) W _ _ e; simp only [rd] at z ⊢; exact st_of z s
  | .nt x p, W, δ, r, δ1, nf, e, b, s => by
    simp only [evE] at e
    simp only [rd]
    split at e
    · rename_i ra δ2 ea
      split at e
      · rename_i c sx
        cases e
        have hb : b = !c := by simpa [R.see, truD] using s.symm
        subst hb
        have sc : (ra.see δ1).bind truD = some c := by rw [sx]; rfl
        exact fun σ G H Q hl Rl post => stE ok x W _ _ _ (by simpa [nIf] using nf) ea c sc σ G H _ hl Rl post
      · cases e
    · cases e
  | .bop op es p, W, δ, r, δ1, nf, e, b, s => by
    simp only [evE] at e
    simp only [rd]
    exact stB ok op es W δ r δ1 (by simpa [nIf] using nf) e b s
  | .cmp op x y p, W, δ, r, δ1, nf, e, b, s => by have z := seE ok (.cmp op x y p) W _ _ e; simp only [rd] at z ⊢; exact st_of' z s
  | .ife c x y p, W, δ, r, δ1, nf, e, b, s => by simp [nIf] at nf
  | .lst es p, W, δ, r, δ1, nf, e, b, s => by have z := seE ok (.lst es p) W _ _ e; simp only [rd] at z ⊢; exact st_of z s
  | .tup es k p, W, δ, r, δ1, nf, e, b, s => by have z := seE ok (.tup es k p) W _ _ e; simp only [rd] at z ⊢; exact st_of z s
  | .dis .nil p, W, δ, r, δ1, nf, e, b, s => by have z := seE ok (.dis .nil p) W _ _ e; simp only [rd] at z ⊢; exact st_of z s
  | .dis (.cons k v ps) p, W, δ, r, δ1, nf, e, b, s => by have z := seE ok (.dis (.cons k v ps) p) W _ _ e; simp only [rd] at z ⊢; exact st_of z s
  | .idx x y p, W, δ, r, δ1, nf, e, b, s => by have z := seE ok (.idx x y p) W _ _ e; simp only [rd] at z ⊢; exact st_of z s
  | .sli x lo hi q p, W, δ, r, δ1, nf, e, b, s => by have z := seE ok (.sli x lo hi q p) W _ _ e; simp only [rd] at z ⊢; exact st_of z s
  | .rev x k p1 p2 q p, W, δ, r, δ1, nf, e, b, s => by have z := seE ok (.rev x k p1 p2 q p) W _ _ e; simp only [rd] at z ⊢; exact st_of z s
  | .call f q es p, W, δ, r, δ1, nf, e, b, s => by have z := seE ok (.call f q es p) W _ _ e; simp only [rd] at z ⊢; exact st_of z s
  | .callk f q ks es p, W, δ, r, δ1, nf, e, b, s => by have z := seE ok (.callk f q ks es p) W _ _ e; simp only [rd] at z ⊢; exact st_of z s
  | .bi i q es p, W, δ, r, δ1, nf, e, b, s => by have z := seE ok (.bi i q es p) W _ _ e; simp only [rd] at z ⊢; exact st_of z s
  | .isi x t tp q p, W, δ, r, δ1, nf, e, b, s => by have z := seE ok (.isi x t tp q p) W _ _ e; simp only [rd] at z ⊢; exact st_of z s
  | .isiT x ts k tp q p, W, δ, r, δ1, nf, e, b, s => by have z := seE ok (.isiT x ts k tp q p) W _ _ e; simp only [rd] at z ⊢; exact st_of z s
  | .me m x q es p, W, δ, r, δ1, nf, e, b, s => by have z := seE ok (.me m x q es p) W _ _ e; simp only [rd] at z ⊢; exact st_of z s
  | .lc elt x xp it c sc p, W, δ, r, δ1, nf, e, b, s => by have z := seE ok (.lc elt x xp it c sc p) W _ _ e; simp only [rd] at z ⊢; exact st_of z s
  | .srt q elt x xp it c sc p1 p, W, δ, r, δ1, nf, e, b, s => by have z := seE ok (.srt q elt x xp it c sc p1 p) W _ _ e; simp only [rd] at z ⊢; exact st_of z s
  | .srs q1 q2 x p1 p, W, δ, r, δ1, nf, e, b, s => by have z := seE ok (.srs q1 q2 x p1 p) W _ _ e; simp only [rd] at z ⊢; exact st_of z s
  | .att x f fld p, W, δ, r, δ1, nf, e, b, s => by have z := seE ok (.att x f fld p) W _ _ e; simp only [rd] at z ⊢; exact st_of z s
  | .isc x c cp q p, W, δ, r, δ1, nf, e, b, s => by have z := seE ok (.isc x c cp q p) W _ _ e; simp only [rd] at z ⊢; exact st_of z s
  | .fst es p, W, δ, r, δ1, nf, e, b, s => by have z := seE ok (.fst es p) W _ _ e; simp only [rd] at z ⊢; exact st_of z s
  | .fmt x rp p, W, δ, r, δ1, nf, e, b, s => by have z := seE ok (.fmt x rp p) W _ _ e; simp only [rd] at z ⊢; exact st_of z s
  | .told f q x ar sc lp p, W, δ, r, δ1, nf, e, b, s => by have z := seE ok (.told f q x ar sc lp p) W _ _ e; simp only [rd] at z ⊢; exact st_of z s
termination_by e => (sizeOf e, 1)
theorem seA (ok : EvOk Ω cf tf gd fsp tsp n) : ∀ (es : Es) (W : WX) (δ : List Sl) (o : EA), evEs cf tf gd es δ = some o → SA Ω (rdA Ω.P Ω.w Ω.K Ω.Γ Ω.gv fsp tsp es W) W n δ o
  | .nil, W, δ, o, e => by
    simp only [evEs] at e
    cases e
    simp only [rdA]
    exact sa_nil
  | .cons x es, W, δ, o, e => by
    simp only [evEs] at e
    simp only [rdA]
    split at e
    · rename_i r δ1 ex
      split at e
      · rename_i rs δ2 ea
        cases e
        exact sa_cons (seE ok x W _ _ ex) (seA ok es W _ _ ea)
      · rename_i c d δ2 ea
        cases e
        exact sa_exc2 (seE ok x W _ _ ex) (seA ok es W _ _ ea)
      · cases e
    · rename_i c d δ1 ex
      cases e
      exact sa_exc1 (seE ok x W _ _ ex)
    · cases e
termination_by es => (sizeOf es, 0)
theorem seJ (ok : EvOk Ω cf tf gd fsp tsp n) : ∀ (es : Es) (W : WX) (δ : List Sl) (rs : List R) (δ1 : List Sl), evEs cf tf gd es δ = some (.ok rs δ1) → ∀ xs, strsR rs = some xs → ∀ acc : Str, (acc ++ catS xs).length ≤ big →
    ∀ (σ : L2.St) (G H : Hp) (Q : Str → Hp → Prop), σ.length = n → Rel Ω.K Ω.T δ σ G H → (∀ G' H', Rel Ω.K Ω.T δ1 σ G' H' → GoE δ δ1 σ G H G' H' → Q (acc ++ catS xs) H') → tJs (rdL Ω.P Ω.w Ω.K Ω.Γ Ω.gv fsp tsp es W) acc σ H Q
  | .nil, W, δ, rs, δ1, e, xs, ex, acc, hz, σ, G, H, Q, hl, Rl, post => by
    simp only [evEs] at e
    cases e
    cases ex
    have := post G H Rl GoE.refl
    simp only [rdL]
    rw [show acc ++ catS [] = acc from cat_empty acc] at this
    exact this
  | .cons x es, W, δ, rs, δ1, e, xs, ex, acc, hz, σ, G, H, Q, hl, Rl, post => by
    simp only [evEs] at e
    simp only [rdL]
    split at e
    · rename_i r δ2 ea
      split at e
      · rename_i rs' δ3 eb
        cases e
        unfold strsR at ex
        split at ex
        · rename_i eq
          cases eq
        · rename_i y ds eq
          cases eq
          obtain ⟨ys, e1, e2⟩ := Option.map_eq_some_iff.mp ex
          subst e2
          have hz' : ((acc ++ y) ++ catS ys).length ≤ big := by rw [← cat_assoc]; exact hz
          refine seE ok x W _ _ ea σ G H _ hl Rl fun v G1 H1 R1 g1 rv => ?_
          have rv : Den Ω.K G1 v (.str y) := rv
          cases rv
          refine ⟨y, rfl, ?_, ?_⟩
          · refine le_big (Nat.le_trans ?_ hz')
            rw [cat_len (acc ++ y)]
            omega
          · refine seJ ok es W _ _ _ eb ys e1 (acc ++ y) hz' σ G1 H1 _ hl R1 fun G2 H2 R2 g2 => ?_
            have := post G2 H2 R2 (g1.trans g2)
            rw [show acc ++ catS (y :: ys) = (acc ++ y) ++ catS ys from cat_assoc acc y (catS ys)] at this
            exact this
        · cases ex
      · cases e
      · cases e
    · cases e
    · cases e
termination_by es => (sizeOf es, 0)
theorem seB (ok : EvOk Ω cf tf gd fsp tsp n) (op : BoolOp) : ∀ (es : Es) (W : WX) (δ : List Sl) (o : EO), evB cf tf gd op es δ = some o → SE Ω (rdB Ω.P Ω.w Ω.K Ω.Γ Ω.gv fsp tsp op es W).1 W n δ o
  | .nil, W, δ, o, e => by simp only [evB] at e; cases e
  | .cons x .nil, W, δ, o, e => by
    simp only [evB] at e
    simp only [rdB]
    exact seE ok x W _ _ e
  | .cons x (.cons y es), W, δ, o, e => by
    rw [evB] at e
    · split at e
      · rename_i r δ1 ex
        have hx := seE ok x W _ _ ex
        split at e
        · rename_i b sx
          cases op with
          | And =>
            simp only [rdB]
            refine fun σ G H Q hl Rl post => hx σ G H _ hl Rl fun v G1 H1 R1 g1 rv => ⟨b, (rv.see R1 sx).bl, ?_⟩
            cases b with
            | true =>
              rw [if_pos (show true = isAnd .And from rfl)] at e
              rw [if_pos rfl]
              exact seB ok .And (.cons y es) W _ _ e σ G1 H1 Q hl R1 (post.from g1)
            | false =>
              rw [if_neg (by simp [isAnd])] at e ⊢
              cases e
              exact post _ G1 H1 R1 g1 (.bl _)
          | Or =>
            simp only [rdB]
            refine fun σ G H Q hl Rl post => hx σ G H _ hl Rl fun v G1 H1 R1 g1 rv => ⟨b, (rv.see R1 sx).bl, ?_⟩
            cases b with
            | false =>
              rw [if_pos (show false = isAnd .Or from rfl)] at e
              rw [if_neg (by decide)]
              exact seB ok .Or (.cons y es) W _ _ e σ G1 H1 Q hl R1 (post.from g1)
            | true =>
              rw [if_neg (by simp [isAnd])] at e
              rw [if_pos rfl]
              cases e
              exact post _ G1 H1 R1 g1 (.bl _)
        · cases e
      · cases e
    · intro z; cases z
termination_by es => (sizeOf es, 0)
theorem stB (ok : EvOk Ω cf tf gd fsp tsp n) (op : BoolOp) : ∀ (es : Es) (W : WX) (δ : List Sl) (r : R) (δ1 : List Sl), nIfs es = true → evB cf tf gd op es δ = some (.ok r δ1) → ∀ b, (r.see δ1).bind truD = some b → ST Ω (rdB Ω.P Ω.w Ω.K Ω.Γ Ω.gv fsp tsp op es W).2 n δ b δ1
  | .nil, W, δ, r, δ1, nf, e, b, s => by simp only [evB] at e; cases e
  | .cons x .nil, W, δ, r, δ1, nf, e, b, s => by
    simp only [evB] at e
    simp only [rdB]
    exact stE ok x W _ _ _ (by simpa [nIfs] using nf) e b s
  | .cons x (.cons y es), W, δ, r, δ1, nf, e, b, s => by
    simp only [nIfs, Bool.and_eq_true] at nf
    have nf2 : nIfs (.cons y es) = true := by simp only [nIfs, Bool.and_eq_true]; exact nf.2
    rw [evB] at e
    · split at e
      · rename_i r' δ2 ex
        split at e
        · rename_i c sx
          have hx := stE ok x W _ _ _ nf.1 ex c (by rw [sx]; rfl)
          cases op with
          | And =>
            simp only [rdB]
            refine fun σ G H Q hl Rl post => hx σ G H _ hl Rl fun G1 H1 R1 g1 => ?_
            cases c with
            | true =>
              rw [if_pos (show true = isAnd .And from rfl)] at e
              rw [if_pos rfl]
              exact stB ok .And (.cons y es) W _ _ _ nf2 e b s σ G1 H1 Q hl R1 fun G2 H2 R2 g2 => post G2 H2 R2 (g1.trans g2)
            | false =>
              rw [if_neg (by simp [isAnd])] at e ⊢
              cases e
              have hb : b = false := by simpa [R.see, truD] using s.symm
              subst hb
              exact post G1 H1 R1 g1
          | Or =>
            simp only [rdB]
            refine fun σ G H Q hl Rl post => hx σ G H _ hl Rl fun G1 H1 R1 g1 => ?_
            cases c with
            | false =>
              rw [if_pos (show false = isAnd .Or from rfl)] at e
              rw [if_neg (by decide)]
              exact stB ok .Or (.cons y es) W _ _ _ nf2 e b s σ G1 H1 Q hl R1 fun G2 H2 R2 g2 => post G2 H2 R2 (g1.trans g2)
            | true =>
              rw [if_neg (by simp [isAnd])] at e
              rw [if_pos rfl]
              cases e
              have hb : b = true := by simpa [R.see, truD] using s.symm
              subst hb
              exact post G1 H1 R1 g1
        · cases e
      · cases e
    · intro z; cases z
termination_by es => (sizeOf es, 1)
theorem seC (ok : EvOk Ω cf tf gd fsp tsp n) : ∀ (es : Es) (W : WX) (δ : List Sl) (b : Bool) (δ1 : List Sl), evC cf tf gd es δ = some (b, δ1) → ST Ω (rdC Ω.P Ω.w Ω.K Ω.Γ Ω.gv fsp tsp es W) n δ b δ1
  | .nil, W, δ, b, δ1, e => by
    simp only [evC] at e
    cases e
    simp only [rdC]
    exact fun σ G H Q hl Rl post => post G H Rl GoE.refl
  | .cons x .nil, W, δ, b, δ1, e => by
    simp only [evC] at e
    simp only [rdC]
    split at e
    · rename_i nf
      split at e
      · rename_i r δ2 ex
        split at e
        · rename_i b' sb
          cases e
          exact stE ok x W _ _ _ nf ex b sb
        · cases e
      · cases e
    · cases e
  | .cons x (.cons y es), W, δ, b, δ1, e => by
    simp only [evC] at e
    cases e
termination_by es => (sizeOf es, 2)
theorem seO (ok : EvOk Ω cf tf gd fsp tsp n) : ∀ (o : Option E) (W : WX) (δ : List Sl) (i : Option Int) (δ1 : List Sl), evO cf tf gd o δ = some (i, δ1) → SOp Ω (rdO Ω.P Ω.w Ω.K Ω.Γ Ω.gv fsp tsp o W) n δ i δ1
  | none, W, δ, i, δ1, e => by
    simp only [evO] at e
    cases e
    simp only [rdO]
    exact fun σ G H Q hl Rl post => post G H Rl GoE.refl
  | some x, W, δ, i, δ1, e => by
    simp only [evO] at e
    simp only [rdO]
    split at e
    · rename_i r δ2 ex
      split at e
      · rename_i j sx
        cases e
        exact fun σ G H Q hl Rl post => seE ok x W _ _ ex σ G H _ hl Rl fun v G1 H1 R1 g1 rv => ⟨j, (rv.see R1 sx).int, post G1 H1 R1 g1⟩
      · cases e
    · cases e
termination_by o => (sizeOf o, 0)
theorem seP (ok : EvOk Ω cf tf gd fsp tsp n) : ∀ (ps : Ps) (W : WX) (δ : List Sl) (kvs : List (Key × D)) (δ1 : List Sl), evP cf tf gd ps δ = some (kvs, δ1) → SPr Ω (rdP Ω.P Ω.w Ω.K Ω.Γ Ω.gv fsp tsp ps W) n δ kvs δ1
  | .nil, W, δ, kvs, δ1, e => by
    simp only [evP] at e
    cases e
    simp only [rdP]
    exact sp_nil
  | .cons k v ps, W, δ, kvs, δ1, e => by
    rw [evP] at e
    simp only [rdP]
    split at e
    · rename_i rk δ2 ek
      split at e
      · rename_i rv δ3 ev
        split at e
        · rename_i i d δ4 sk ef
          split at e
          · rename_i kvs' δ5 ep
            cases e
            exact sp_cons (seE ok k W _ _ ek) (seE ok v W _ _ ev) sk rfl ef (seP ok ps W _ _ _ ep)
          · cases e
        · rename_i i d δ4 sk ef
          split at e
          · rename_i kvs' δ5 ep
            cases e
            exact sp_cons (seE ok k W _ _ ek) (seE ok v W _ _ ev) sk rfl ef (seP ok ps W _ _ _ ep)
          · cases e
        · cases e
      · cases e
    · cases e
termination_by ps => (sizeOf ps, 0)
theorem seI (ok : EvOk Ω cf tf gd fsp tsp n) : ∀ (it : It) (W : WX) (δ : List Sl) (xs : List D) (δ1 : List Sl) (lk : Option (Nat × Sl)), evI cf tf gd it δ = some (xs, δ1, lk) → SI Ω (rdI Ω.P Ω.w Ω.K Ω.Γ Ω.gv fsp tsp it W) n δ xs δ1 lk
  | .seq x, W, δ, xs, δ1, lk, e => by
    simp only [evI] at e
    simp only [rdI]
    split at e
    · rename_i r δ2 ex
      exact si_seq (seE ok x W _ _ ex) e
    · cases e
  | .rng1 q x p, W, δ, xs, δ1, lk, e => by
    simp only [evI] at e
    simp only [rdI]
    split at e
    · rename_i r δ2 ex
      split at e
      · rename_i m sx
        split at e
        · rename_i hz
          cases e
          exact si_rng1 (seE ok x W _ _ ex) sx hz
        · cases e
      · cases e
    · cases e
  | .rng2 q x y p, W, δ, xs, δ1, lk, e => by
    simp only [evI] at e
    simp only [rdI]
    split at e
    · rename_i ra δ2 ea
      split at e
      · rename_i rb δ3 eb
        split at e
        · rename_i i j sx sy
          split at e
          · rename_i hz
            cases e
            exact si_rng2 (seE ok x W _ _ ea) (seE ok y W _ _ eb) sx sy hz
          · cases e
        · cases e
      · cases e
    · cases e
termination_by it => (sizeOf it, 0)
end
end
end Mn

-- Mn16
set_option Elab.async false
set_option linter.all false
set_option maxRecDepth 100000
set_option maxHeartbeats 1000000
set_option autoImplicit false
namespace Mn
open PySem PySem.Spec L2

/-! ## statements: the readings -/
/-- raise C(e): the error's dict is new -/
def tRaise (C : Addr) (te : TE) (W : WX) : TS := fun _ σ H => te σ H fun v H1 => ∀ d, H1 d = none → W (.ref C) (some d) σ (upd H1 d (.xd [("value", v)]))
section
variable (P : Program) (w : World) (K : PySem.W.Frag) (Γ : Gam) (gv : Nat → V) (ca : Nat → Addr) (fsp : Nat → Sp) (tsp : (XK → TE) → TE)
def rdT (W : WX) : Tg → TG
  | .nm i _ => gName i
  | .sub o i _ => gSub (rd P w K Γ gv fsp tsp o W).1 (rd P w K Γ gv fsp tsp i W).1 rSetL
mutual
def rdS : S → WX → TS
  | .asg i _ e _, W => tAsg (rd P w K Γ gv fsp tsp e W).1 (gName i)
  | .par i j _ _ _ _ a b _ _ _, W => tPar i j (tCons (rd P w K Γ gv fsp tsp a W).1 (tCons (rd P w K Γ gv fsp tsp b W).1 tNil))
  | .unp t1 t2 _ _ e _, W => tAsg (rd P w K Γ gv fsp tsp e W).1 (gTup K 2 (gCons (rdT P w K Γ gv fsp tsp W t1) (gCons (rdT P w K Γ gv fsp tsp W t2) gNil)))
  | .sub o i _ e _, W => tAsg (rd P w K Γ gv fsp tsp e W).1 (gSub (rd P w K Γ gv fsp tsp o W).1 (rd P w K Γ gv fsp tsp i W).1 rSetL)
  | .exp e _, W => tDrop (rd P w K Γ gv fsp tsp e W).1
  | .ret e _, W => tRet (rd P w K Γ gv fsp tsp e W).1
  | .iff c a b _, W => tIfS (rd P w K Γ gv fsp tsp c W).2 (rdSs a W) (rdSs b W)
  | .fr x _ it b _, W => tFor (rdI P w K Γ gv fsp tsp it W) (gName x) (rdSs b W)
  | .raise c _ e _ _, W => tRaise (ca c) (rd P w K Γ gv fsp tsp e W).1 W
  | .par3 i j l _ _ _ _ _ a b c _ _ _, W => tPar3 i j l (tCons (rd P w K Γ gv fsp tsp a W).1 (tCons (rd P w K Γ gv fsp tsp b W).1 (tCons (rd P w K Γ gv fsp tsp c W).1 tNil)))
  | .frt x y _ _ _ _ it b _, W => tFor (rdI P w K Γ gv fsp tsp it W) (gTup K 2 (gCons (gName x) (gCons (gName y) gNil))) (rdSs b W)
def rdSs : Ss → WX → TS
  | .nil, _ => tNext
  | .cons s ss, W => tSeq (rdS s W) (rdSs ss W)
end
end

/-! ## each statement has its reading -/
/-- a frame with such a scope -/
abbrev env0 (sc : Scope) : Env := { scope := sc, locals := 0, globals := 0, cells := [] }
/-- which names ts = v stores from the right; none: not told -/
def swapN (sc : Scope) (ts : List Expr) (v : Expr) : Option (Option (List Str)) := match swappedStores ts v (env0 sc) with
  | .pure r => some r
  | _ => none
theorem swapN_ok {sc : Scope} {ts : List Expr} {v : Expr} {r : Option (List Str)} {env : Env} (hs : env.scope = sc) (h : swapN sc ts v = some r) : swappedStores ts v env = pure r := by
  have e : swappedStores ts v env = swappedStores ts v (env0 sc) := by
    have kf : env.kindOf = (env0 sc).kindOf := by funext x; unfold Env.kindOf; rw [hs]
    have hb : env.blockKind = (env0 sc).blockKind := by unfold Env.blockKind; rw [hs]
    unfold swappedStores
    rw [kf, hb]
  unfold swapN at h
  rw [e]
  split at h
  · rename_i q
    cases h
    exact q
  · cases h
/-- name = [..]: whether the list is stored by the comprehension itself -/
def swapLc (sc : Scope) (y : Str) (py : Pos) (sc' : Scope) (pos : Pos) : Bool := decide (sc.names.lookup y = some .local) && (py.line == pos.line) && !(sc'.names.any fun (n, k) => n == y && (k == .local || k == .cell))
theorem swapLc_no {sc : Scope} {elt : Expr} {gs : List Comprehension} {sc' : Scope} {pos py : Pos} {y : Str} {l : Nat} {env : Env} (hs : env.scope = sc) (h : swapLc sc y py sc' pos = false) : swapsWith (.ListComp elt gs sc' pos) (some (.Name y py)) l env = pure false := by
  have ky : env.kindOf y = sc.names.lookup y := by rw [← hs]; rfl
  unfold swapsWith
  simp only [ky, Expr.pos]
  unfold swapLc at h
  have : (env.blockKind == ScopeKind.function && List.lookup y sc.names == some NameKind.local && py.line == pos.line && !(sc'.names.any fun (n, k) => n == y && (k == .local || k == .cell))) = false := by
    cases h1 : (List.lookup y sc.names == some NameKind.local) with
    | false => simp
    | true =>
      have h2 : decide (List.lookup y sc.names = some NameKind.local) = true := by simpa using h1
      rw [h2, Bool.true_and] at h
      rw [Bool.and_assoc, h, Bool.and_false]
  exact congrArg pure this
theorem sole_up {Γ : Gam} {N : List Str} (e : E) (t : Expr) (l : Nat) (env : Env) (h : ∀ x p, t ≠ .Name x p) : swapsWithSole [t] (up Γ N e) l env = pure false := by
  cases e <;> first | (simp only [up]; rfl) | (simp only [up]; unfold swapsWithSole swapsWith; cases t <;> first | rfl | exact absurd rfl (h _ _))
theorem stores_sub {o i v : Expr} {p : Pos} {env : Env} : swappedStores [.Subscript o i p] v env = pure none := by
  unfold swappedStores
  rfl
def isLoc (sc : Scope) (x : Str) : Bool := decide (sc.names.lookup x = some .local) || decide (sc.names.lookup x = some .cell)
theorem isLoc_ok {sc : Scope} {x : Str} (h : isLoc sc x = true) : L2.Loc sc x := by
  unfold isLoc at h
  simp only [Bool.or_eq_true, decide_eq_true_eq] at h
  exact h
def isLc : E → Bool
  | .lc _ _ _ _ _ _ _ => true
  | _ => false
section
variable (Γ : Gam) (N : List Str)
def wfT (sc : Sk) : Tg → Bool
  | .nm i _ => decide (i < N.length) && isLoc sc.s (gname N i)
  | .sub o i _ => wfE Γ N sc o && wfE Γ N sc i
mutual
def wfS (sc : Sk) : S → Bool
  | .asg i _ e _ => decide (i < N.length) && isLoc sc.s (gname N i) && wfE Γ N sc e
  | .par i j q1 q2 k tp a b k2 vp _ => decide (i < N.length) && decide (j < N.length) && decide (i ≠ j) && decide (sc.s.names.lookup (gname N i) = some .local) && decide (sc.s.names.lookup (gname N j) = some .local) && wfE Γ N sc a && wfE Γ N sc b &&
      decide (swapN sc.s [.Tuple [.Name (gname N i) q1, .Name (gname N j) q2] k tp] (.Tuple [up Γ N a, up Γ N b] k2 vp) = some (some [gname N i, gname N j]))
  | .unp t1 t2 k tp e _ => wfT Γ N sc t1 && wfT Γ N sc t2 && wfE Γ N sc e && decide (swapN sc.s [.Tuple [upt Γ N t1, upt Γ N t2] k tp] (up Γ N e) = some none)
  | .sub o i _ e _ => wfE Γ N sc o && wfE Γ N sc i && wfE Γ N sc e
  | .exp e _ => wfE Γ N sc e && !isLc e
  | .ret e _ => wfE Γ N sc e
  | .iff c a b _ => wfE Γ N sc c && wfSs sc a && wfSs sc b
  | .fr x _ it b _ => decide (x < N.length) && isLoc sc.s (gname N x) && wfI Γ N sc it && wfSs sc b
  | .raise c _ e _ _ => decide (c < Γ.cls.length) && isGl sc.s (gname Γ.cls c) && wfE Γ N sc e
  | .par3 i j l q1 q2 q3 k tp a b c k2 vp _ => decide (i < N.length) && decide (j < N.length) && decide (l < N.length) && decide (i ≠ j) && decide (i ≠ l) && decide (j ≠ l) && decide (sc.s.names.lookup (gname N i) = some .local) && decide (sc.s.names.lookup (gname N j) = some .local) && decide (sc.s.names.lookup (gname N l) = some .local) && wfE Γ N sc a && wfE Γ N sc b && wfE Γ N sc c &&
      decide (swapN sc.s [.Tuple [.Name (gname N i) q1, .Name (gname N j) q2, .Name (gname N l) q3] k tp] (.Tuple [up Γ N a, up Γ N b, up Γ N c] k2 vp) = some (some [gname N i, gname N j, gname N l]))
  | .frt x y _ _ _ _ it b _ => decide (x < N.length) && isLoc sc.s (gname N x) && decide (y < N.length) && isLoc sc.s (gname N y) && wfI Γ N sc it && wfSs sc b
def wfSs (sc : Sk) : Ss → Bool
  | .nil => true
  | .cons s ss => wfS sc s && wfSs sc ss
end
end
/-- a def's own frame, with some room -/
def Frm (X : Cx) : Prop := (∀ x, L2.Loc X.env.scope x → X.fn x = true ∨ X.env.scope.names.lookup x = some .local) ∧ Room 2 X.A
/-- how an error of the text is made -/
def RaiOk (Ω : Wd) (lv : Nat) : Prop := ∀ (N : List Str) (sc : Sk) (X : Cx), Good Ω N sc lv X → Room 2 X.A → ∀ (c : Nat) (q p : Pos) (e : E) (te : TE), c < Ω.Γ.cls.length → isGl sc.s (gname Ω.Γ.cls c) = true → PE X (up Ω.Γ N e) te →
  PMk X (.Call (.Name (gname Ω.Γ.cls c) q) [up Ω.Γ N e] [] p) (fun σ H Q => te σ H fun v H1 => ∀ d, H1 d = none → Q (.ref (Ω.ca c)) (some d) (upd H1 d (.xd [("value", v)])))
section
variable {Ω : Wd} {N : List Str} {lv : Nat} {fsp : Nat → Sp} {tsp : (XK → TE) → TE}
theorem pgT (fx : Facts Ω fsp lv) (tl : TellOk Ω N lv tsp) (t : Tg) (sc : Sk) (h : wfT Ω.Γ N sc t = true) (X : Cx) (W : WX) (g : Good Ω N sc lv X) (fn : Frm X) (tk : Takes X W) : PG X (upt Ω.Γ N t) (rdT Ω.P Ω.w Ω.K Ω.Γ Ω.gv fsp tsp W t) := by
  cases t with
  | nm i p =>
    simp only [wfT, Bool.and_eq_true, decide_eq_true_eq] at h
    simp only [upt, rdT]
    exact pg_name g.nd (by rw [g.N]; exact gname_at h.1) (by rw [g.sc]; exact isLoc_ok h.2) (fn.1 _ (by rw [g.sc]; exact isLoc_ok h.2))
  | sub o i p =>
    simp only [wfT, Bool.and_eq_true] at h
    simp only [upt, rdT]
    exact pg_sub (peE fx tl o sc h.1 X W g tk).1 (peE fx tl i sc h.2 X W g tk).1 set_list (fun v => by cases i <;> (simp only [up]; rfl))
theorem upt_each (t : Tg) (es : List Expr) (env : Env) : (assignEach (upt Ω.Γ N t :: es) env).map (·.2) = assign (upt Ω.Γ N t) env :: (assignEach es env).map (·.2) := by
  cases t <;> (simp only [upt]; rfl)
theorem upt_two (t u : Tg) (env : Env) : (assignEach [upt Ω.Γ N t, upt Ω.Γ N u] env).length = 2 ∧ (assignEach [upt Ω.Γ N t, upt Ω.Γ N u] env).findIdx? (·.1) = none := by
  cases t <;> cases u <;> (simp only [upt]; exact ⟨rfl, rfl⟩)
mutual
theorem psS (fx : Facts Ω fsp lv) (tl : TellOk Ω N lv tsp) (ra : RaiOk Ω lv) : ∀ (s : S) (sc : Sk), sc.s.kind = .function → wfS Ω.Γ N sc s = true → ∀ (X : Cx) (W : WX), Good Ω N sc lv X → Frm X → Takes X W → PS X (upS Ω.Γ N s) (rdS Ω.P Ω.w Ω.K Ω.Γ Ω.gv Ω.ca fsp tsp s W)
  | .asg i q e p, sc, hkd, h, X, W, g, fn, tk => by
    simp only [wfS, Bool.and_eq_true, decide_eq_true_eq] at h
    obtain ⟨⟨h1, h2⟩, h3⟩ := h
    have hi : X.N[i]? = some (gname N i) := by rw [g.N]; exact gname_at h1
    have hx : L2.Loc X.env.scope (gname N i) := by rw [g.sc]; exact isLoc_ok h2
    have plain : swapsWith (up Ω.Γ N e) (some (.Name (gname N i) q)) p.line X.env = pure false → PS X (upS Ω.Γ N (.asg i q e p)) (rdS Ω.P Ω.w Ω.K Ω.Γ Ω.gv Ω.ca fsp tsp (.asg i q e p) W) := fun hs => by
      simp only [upS, rdS]
      exact ps_set g.nd hi hx (peE fx tl e sc h3 X W g tk).1 hs (fn.1 _ hx)
    cases he : isLc e with
    | false => exact plain (swap_up e _ _ _ fun _ _ _ _ _ _ _ z => by rw [z] at he; cases he)
    | true =>
      cases e with
      | lc elt x xp it c sc' lp =>
        cases hw : swapLc sc.s (gname N i) q sc' lp with
        | false => exact plain (by simp only [up]; exact swapLc_no g.sc hw)
        | true =>
          simp only [swapLc, Bool.and_eq_true, decide_eq_true_eq, Bool.not_eq_true'] at hw
          obtain ⟨⟨w1, w2⟩, w3⟩ := hw
          simp only [wfE, Bool.and_eq_true, decide_eq_true_eq] at h3
          obtain ⟨⟨⟨⟨⟨k1, k2⟩, k3⟩, k4⟩, k5⟩, k6⟩ := h3
          simp only [upS, rdS, up, rd]
          have ok := blkOk_by k3
          rw [← g.N, ← g.sc] at ok
          exact ps_setLc (X := X) (i := i) (spos := p) (py := q) (pos := lp) (own := [(gname N x, x)]) (g := gName x) g.calm g.nd hi (by rw [g.sc]; exact w1) (sw_true (by rw [g.sc]; exact hkd) (by rw [g.sc]; exact w1) w2 w3) (peI fx tl it sc k1 X W0 g LamX.takes0 (.Name (gname N x) xp)) (by rw [g.N] at ok ⊢; exact ok)
            (fun s H C cl fp => pg_name (X := X.blk s H sc' (compEnvC sc' cl C X.env) fp) (pos := xp) g.nd (by rw [g.N]; exact gname_at k2) (.inl (by rw [(blk_good g).sc]; exact k4)) (.inr (by rw [(blk_good g).sc]; exact k4)))
            (fun s H C cl fp => peC fx tl c _ k6 _ W0 (blk_good g) LamX.takes0)
            (fun s H C cl fp => (peE fx tl elt _ k5 _ W0 (blk_good g) LamX.takes0).1) (fun _ => by cases it <;> first | rfl | (rename_i e; cases e <;> (simp only [upi, up]; rfl)))
      | _ => cases he
  | .par i j q1 q2 k tp a b k2 vp p, sc, hkd, h, X, W, g, fn, tk => by
    simp only [wfS, Bool.and_eq_true, decide_eq_true_eq] at h
    obtain ⟨⟨⟨⟨⟨⟨⟨h1, h2⟩, h3⟩, h4⟩, h5⟩, h6⟩, h7⟩, h8⟩ := h
    simp only [upS, rdS]
    exact ps_par g.calm g.nd (by rw [g.N]; exact gname_at h1) (by rw [g.N]; exact gname_at h2) h3 (by rw [g.sc]; exact h4) (by rw [g.sc]; exact h5)
      (pa_cons (peE fx tl a sc h6 X W g tk).1 (pa_cons (peE fx tl b sc h7 X W g tk).1 pa_nil (star_up _ _ _)) (star_up _ _ _)) (swapN_ok g.sc h8) rfl
  | .unp t1 t2 k tp e p, sc, hkd, h, X, W, g, fn, tk => by
    simp only [wfS, Bool.and_eq_true, decide_eq_true_eq] at h
    obtain ⟨⟨⟨h1, h2⟩, h3⟩, h4⟩ := h
    simp only [upS, rdS]
    have e2 := upt_two (Ω := Ω) (N := N) t1 t2 X.env
    have z := pg_tup (X := X) (k := k) (pos := tp) g.calm (pgs_cons (pgT fx tl t1 sc h1 X W g fn tk) (pgs_cons (pgT fx tl t2 sc h2 X W g fn tk) pgs_nil (upt_each _ _ _)) (upt_each _ _ _)) e2.1 e2.2
    rw [g.K] at z
    exact ps_asg (peE fx tl e sc h3 X W g tk).1 z (sole_up e _ _ _ fun _ _ q => by cases q) (swapN_ok g.sc h4) rfl
  | .sub o i q e p, sc, hkd, h, X, W, g, fn, tk => by
    simp only [wfS, Bool.and_eq_true] at h
    simp only [upS, rdS]
    exact ps_asg (peE fx tl e sc h.2 X W g tk).1 (pg_sub (peE fx tl o sc h.1.1 X W g tk).1 (peE fx tl i sc h.1.2 X W g tk).1 set_list (fun v => by cases i <;> (simp only [up]; rfl))) (sole_up e _ _ _ fun _ _ q => by cases q) stores_sub rfl
  | .exp e p, sc, hkd, h, X, W, g, fn, tk => by
    simp only [wfS, Bool.and_eq_true, Bool.not_eq_true'] at h
    simp only [upS, rdS]
    exact ps_expr (peE fx tl e sc h.1 X W g tk).1 (swap_up e _ _ _ fun _ _ _ _ _ _ _ z => by rw [z] at h; cases h.2)
  | .ret e p, sc, hkd, h, X, W, g, fn, tk => by
    simp only [wfS] at h
    simp only [upS, rdS]
    exact ps_ret (peE fx tl e sc h X W g tk).1
  | .iff c a b p, sc, hkd, h, X, W, g, fn, tk => by
    simp only [wfS, Bool.and_eq_true] at h
    simp only [upS, rdS]
    exact ps_if (peE fx tl c sc h.1.1 X W g tk).2 (psSs fx tl ra a sc hkd h.1.2 X W g fn tk) (psSs fx tl ra b sc hkd h.2 X W g fn tk)
  | .fr x xp it b p, sc, hkd, h, X, W, g, fn, tk => by
    simp only [wfS, Bool.and_eq_true, decide_eq_true_eq] at h
    obtain ⟨⟨⟨h1, h2⟩, h3⟩, h4⟩ := h
    simp only [upS, rdS]
    exact ps_for g.pass g.calm (peI fx tl it sc h3 X W g tk _) (pg_name g.nd (by rw [g.N]; exact gname_at h1) (by rw [g.sc]; exact isLoc_ok h2) (fn.1 _ (by rw [g.sc]; exact isLoc_ok h2))) (psSs fx tl ra b sc hkd h4 X W g fn tk)
      (fun _ => by cases it <;> first | rfl | (rename_i e; cases e <;> (simp only [upi, up]; rfl)))
  | .raise c q e p1 p, sc, hkd, h, X, W, g, fn, tk => by
    simp only [wfS, Bool.and_eq_true, decide_eq_true_eq] at h
    obtain ⟨⟨h1, h2⟩, h3⟩ := h
    simp only [upS, rdS]
    exact ps_raise g.calm tk (ra N sc X g fn.2 c q p1 e _ h1 h2 (peE fx tl e sc h3 X W g tk).1)
  | .par3 i j l q1 q2 q3 k tp a b c k2 vp p, sc, hkd, h, X, W, g, fn, tk => by
    simp only [wfS, Bool.and_eq_true, decide_eq_true_eq] at h
    obtain ⟨⟨⟨⟨⟨⟨⟨⟨⟨⟨⟨⟨h1, h2⟩, h3⟩, h4⟩, h5⟩, h6⟩, h7⟩, h8⟩, h9⟩, h10⟩, h11⟩, h12⟩, h13⟩ := h
    simp only [upS, rdS]
    exact ps_par3 g.calm g.nd (by rw [g.N]; exact gname_at h1) (by rw [g.N]; exact gname_at h2) (by rw [g.N]; exact gname_at h3) h4 h5 h6 (by rw [g.sc]; exact h7) (by rw [g.sc]; exact h8) (by rw [g.sc]; exact h9)
      (pa_cons (peE fx tl a sc h10 X W g tk).1 (pa_cons (peE fx tl b sc h11 X W g tk).1 (pa_cons (peE fx tl c sc h12 X W g tk).1 pa_nil (star_up _ _ _)) (star_up _ _ _)) (star_up _ _ _)) (swapN_ok g.sc h13) rfl
  | .frt x y xp yp k tp it b p, sc, hkd, h, X, W, g, fn, tk => by
    simp only [wfS, Bool.and_eq_true, decide_eq_true_eq] at h
    obtain ⟨⟨⟨⟨⟨h1, h2⟩, h3⟩, h4⟩, h5⟩, h6⟩ := h
    simp only [upS, rdS]
    have z := pg_tup (X := X) (k := k) (pos := tp) g.calm (pgs_cons (pg_name (pos := xp) g.nd (by rw [g.N]; exact gname_at h1) (by rw [g.sc]; exact isLoc_ok h2) (fn.1 _ (by rw [g.sc]; exact isLoc_ok h2))) (pgs_cons (pg_name (pos := yp) g.nd (by rw [g.N]; exact gname_at h3) (by rw [g.sc]; exact isLoc_ok h4) (fn.1 _ (by rw [g.sc]; exact isLoc_ok h4))) pgs_nil rfl) rfl) rfl rfl
    rw [g.K] at z
    exact ps_for g.pass g.calm (peI fx tl it sc h5 X W g tk _) z (psSs fx tl ra b sc hkd h6 X W g fn tk)
      (fun _ => by cases it <;> first | rfl | (rename_i e; cases e <;> (simp only [upi, up]; rfl)))
theorem psSs (fx : Facts Ω fsp lv) (tl : TellOk Ω N lv tsp) (ra : RaiOk Ω lv) : ∀ (ss : Ss) (sc : Sk), sc.s.kind = .function → wfSs Ω.Γ N sc ss = true → ∀ (X : Cx) (W : WX), Good Ω N sc lv X → Frm X → Takes X W → PSs X (upSs Ω.Γ N ss) (rdSs Ω.P Ω.w Ω.K Ω.Γ Ω.gv Ω.ca fsp tsp ss W)
  | .nil, sc, hkd, h, X, W, g, fn, tk => by
    simp only [upSs, rdSs]
    exact pss_nil
  | .cons s ss, sc, hkd, h, X, W, g, fn, tk => by
    simp only [wfSs, Bool.and_eq_true] at h
    simp only [upSs, rdSs]
    exact pss_cons (psS fx tl ra s sc hkd h.1 X W g fn tk) (psSs fx tl ra ss sc hkd h.2 X W g fn tk)
end
end
end Mn

-- Mn17
set_option Elab.async false
set_option linter.all false
set_option maxRecDepth 100000
set_option maxHeartbeats 1000000
set_option autoImplicit false
namespace Mn
open PySem PySem.Spec L2

/-! ## statements: what the evaluator says, the reading asks -/
structure GoS (np : Nat) (δ δ' : List Sl) (σ σ' : L2.St) (G H G' H' : Hp) : Prop where
  go : Go (Own δ σ) G H (Own δ' σ') G' H'
  len : σ'.length = σ.length
  lock : ∀ (i : Nat) (xs : List D), δ[i]? = some (.lock xs) → δ'[i]? = some (.lock xs) ∧ σ'[i]? = σ[i]?
  par : ∀ i : Nat, i < np → σ'[i]? = σ[i]?
  fate : ∀ (i : Nat) (a : Addr), i < np → OwnAt δ σ i a → (∃ xs, Ow δ'[i]? xs) ∨ ∃ o, G' a = some o
/-- a list of the def's own, or one that is new -/
def At (np : Nat) (δ : List Sl) (σ : L2.St) (H : Hp) (a : Addr) : Prop := (∃ j, np ≤ j ∧ OwnAt δ σ j a) ∨ H a = none
section
variable {K : PySem.W.Frag} {T : List (Addr × Str)} {np : Nat} {δ δ0 δ1 δ2 δ' : List Sl} {σ σ' σ1 σ2 : L2.St} {G H G0 H0 G' H' G1 H1 G2 H2 : Hp} {a : Addr} {i : Nat}
theorem GoE.toS (g : GoE δ δ' σ G H G' H') : GoS np δ δ' σ σ G H G' H' := ⟨g.go, rfl, fun i xs h => ⟨g.lock i xs h, rfl⟩, fun _ _ => rfl, fun i a _ h => g.fate i a h⟩
theorem GoS.trans (a : GoS np δ δ1 σ σ1 G H G1 H1) (b : GoS np δ1 δ2 σ1 σ2 G1 H1 G2 H2) : GoS np δ δ2 σ σ2 G H G2 H2 := by
  refine ⟨a.go.trans b.go, b.len.trans a.len, fun i xs h => ?_, fun i h => (b.par i h).trans (a.par i h), fun i x h o => ?_⟩
  · obtain ⟨z1, z2⟩ := a.lock i xs h
    obtain ⟨z3, z4⟩ := b.lock i xs z1
    exact ⟨z3, z4.trans z2⟩
  · rcases a.fate i x h o with z | ⟨u, z⟩
    · exact b.fate i x h ⟨z, by rw [a.par i h]; exact o.2⟩
    · exact .inr ⟨u, b.go.ex _ _ z⟩
theorem at_back (R1 : Rel K T δ1 σ1 G1 H1) (g : GoS np δ δ1 σ σ1 G H G1 H1) (h : At np δ1 σ1 H1 a) : At np δ σ H a := by
  rcases h with ⟨j, hj, o⟩ | n
  · rcases g.go.grow a ⟨j, o⟩ with ⟨k, ok⟩ | n
    · by_cases hk : k < np
      · rcases g.fate k a hk ok with z | ⟨u, z⟩
        · have := R1.sep k j a ⟨z, by rw [g.par k hk]; exact ok.2⟩ o
          omega
        · obtain ⟨⟨xs, w⟩, e⟩ := o
          obtain ⟨b, vs, e1, _, e3, _⟩ := R1.own j xs w
          rw [e] at e1
          cases e1
          rw [z] at e3
          cases e3
      · exact .inl ⟨k, by omega, ok⟩
    · exact .inr n
  · exact .inr (g.go.back n)
theorem lt_some {α : Type} {l : List α} {x : α} (h : l[i]? = some x) : i < l.length := by
  rcases Nat.lt_or_ge i l.length with z | z
  · exact z
  · rw [List.getElem?_eq_none z] at h
    cases h
theorem Rel.forget (R : Rel K T δ σ G H) (li : i < δ.length) : Rel K T (δ.set i .un) σ G H := by
  refine ⟨by rw [List.length_set]; exact R.len, R.sub, R.ntb, R.tab, fun j d q => ?_, fun j zs q => ?_, fun j k b ⟨⟨zs, z⟩, e⟩ ⟨⟨zs', z'⟩, e'⟩ => ?_⟩
  · by_cases hj : j = i
    · subst hj
      rw [List.getElem?_set_self li] at q
      cases q
    · rw [List.getElem?_set_ne (Ne.symm hj)] at q
      exact R.val j d q
  · rcases ow_set li q with ⟨_, z⟩ | ⟨_, z⟩
    · exact absurd z (Sl.no_ow rfl)
    · exact R.own j zs z
  · rcases ow_set li z with ⟨_, z⟩ | ⟨_, z⟩
    · exact absurd z (Sl.no_ow rfl)
    · rcases ow_set li z' with ⟨_, z'⟩ | ⟨_, z'⟩
      · exact absurd z' (Sl.no_ow rfl)
      · exact R.sep j k b ⟨⟨zs, z⟩, e⟩ ⟨⟨zs', z'⟩, e'⟩
/-- what an assignment is to -/
theorem asgS_at {nn : Nat × Nat} {s : Sl} (e : asgS nn i s δ = some δ') : nn.1 ≤ i ∧ (∃ s0, δ[i]? = some s0 ∧ ∀ xs, s0 ≠ .lock xs) ∧ δ' = δ.set i s := by
  unfold asgS at e
  split at e
  · rename_i h
    split at e
    · cases e
    · rename_i s0 hn q
      cases e
      exact ⟨h.1, ⟨s0, q, fun xs z => hn xs (by rw [← z])⟩, rfl⟩
    · cases e
  · cases e
theorem asg_val {nn : Nat × Nat} {v : V} {d : D} (R : Rel K T δ σ G H) (dn : Den K G v d) (e : asgS nn i (.val d) δ = some δ') : Rel K T δ' (σ.set i (some v)) G H ∧ GoS nn.1 δ δ' σ (σ.set i (some v)) G H G H := by
  obtain ⟨hi, ⟨s0, q, nl⟩, rfl⟩ := asgS_at e
  have li := lt_some q
  refine ⟨R.fill li rfl fun d' z => by cases z; exact ⟨v, rfl, dn⟩, ⟨⟨Same.refl _, fun _ _ h _ _ => h, fun _ o h => ⟨o, h⟩, fun _ _ h => .inl h, fun b ⟨j, o⟩ => .inl ⟨j, (own_hide li (s := .val d) rfl o).2⟩⟩, List.length_set, fun j xs h => ?_, fun j h => ?_, fun j b h o => ?_⟩⟩
  · have hj : i ≠ j := fun z => by
      subst z
      rw [q] at h
      exact nl xs (Option.some.inj h)
    rw [List.getElem?_set_ne hj, List.getElem?_set_ne hj]
    exact ⟨h, rfl⟩
  · rw [List.getElem?_set_ne (by omega)]
  · rw [List.getElem?_set_ne (by omega)]
    exact .inl o.1
theorem asg_own {nn : Nat × Nat} {vs : List V} {xs : List D} (R0 : Rel K T δ0 σ G0 H0) (g : GoE δ0 δ σ G0 H0 G H) (R : Rel K T δ σ G H) (h1 : H a = some (.lst vs)) (h2 : G a = none) (h3 : H0 a = none) (h4 : DenL K G vs xs) (e : asgS nn i (.own xs) δ = some δ') :
    Rel K T δ' (σ.set i (some (.ref a))) G H ∧ GoS nn.1 δ0 δ' σ (σ.set i (some (.ref a))) G0 H0 G H := by
  obtain ⟨hi, ⟨s0, q, nl⟩, rfl⟩ := asgS_at e
  have li := lt_some q
  have no := GoE.un_own R0 g h3
  have other : ∀ (j : Nat) (zs : List D), Ow (δ.set i (.own xs))[j]? zs → j ≠ i → Ow δ[j]? zs := fun j zs z hj => by
    rw [List.getElem?_set_ne (Ne.symm hj)] at z
    exact z
  have lσ : i < σ.length := by rw [R.len]; exact li
  have away : ∀ (j : Nat) (b : Addr), OwnAt (δ.set i (.own xs)) (σ.set i (some (.ref a))) j b → j ≠ i → OwnAt δ σ j b := fun j b ⟨⟨zs, z⟩, e⟩ hj => by
    rw [List.getElem?_set_ne (Ne.symm hj)] at e
    exact ⟨⟨zs, other j zs z hj⟩, e⟩
  have here : ∀ b, OwnAt (δ.set i (.own xs)) (σ.set i (some (.ref a))) i b → b = a := fun b ⟨_, e⟩ => by
    rw [List.getElem?_set_self lσ] at e
    cases e
    rfl
  refine ⟨⟨by rw [List.length_set, List.length_set]; exact R.len, R.sub, R.ntb, R.tab, fun j d z => ?_, fun j zs z => ?_, fun j k b o1 o2 => ?_⟩, ⟨⟨g.go.ex, g.go.keep, g.go.live, g.go.new, fun b ⟨j, o⟩ => ?_⟩, List.length_set, fun j zs h => ?_, fun j h => ?_, fun j b h o => ?_⟩⟩
  · by_cases hj : j = i
    · subst hj
      rw [List.getElem?_set_self li] at z
      cases z
    · rw [List.getElem?_set_ne (Ne.symm hj)] at z ⊢
      exact R.val j d z
  · by_cases hj : j = i
    · subst hj
      rw [List.getElem?_set_self li] at z
      rw [List.getElem?_set_self lσ]
      obtain rfl : xs = zs := by
        rcases z with z | z
        · exact Sl.own.inj (Option.some.inj z)
        · cases z
      exact ⟨a, vs, rfl, h1, h2, h4⟩
    · rw [List.getElem?_set_ne (Ne.symm hj)]
      exact R.own j zs (other j zs z hj)
  · by_cases hj : j = i
    · by_cases hk : k = i
      · rw [hj, hk]
      · subst hj
        have eb := here b o1
        subst eb
        exact absurd ⟨k, away k b o2 hk⟩ no
    · by_cases hk : k = i
      · subst hk
        have eb := here b o2
        subst eb
        exact absurd ⟨j, away j b o1 hj⟩ no
      · exact R.sep j k b (away j b o1 hj) (away k b o2 hk)
  · by_cases hj : j = i
    · subst hj
      rw [here b o]
      exact .inr h3
    · exact g.go.grow b ⟨j, away j b o hj⟩
  · have z := g.lock j zs h
    have hj : i ≠ j := fun y => by
      subst y
      rw [q] at z
      exact nl zs (Option.some.inj z)
    rw [List.getElem?_set_ne hj, List.getElem?_set_ne hj]
    exact ⟨z, rfl⟩
  · rw [List.getElem?_set_ne (by omega)]
  · rw [List.getElem?_set_ne (by omega)]
    exact g.fate j b o
theorem asg_ownS {nn : Nat × Nat} {vs : List V} {xs : List D} {σ0 : L2.St} (g : GoS nn.1 δ0 δ σ0 σ G0 H0 G H) (no : ¬ Own δ σ a) (R : Rel K T δ σ G H) (h1 : H a = some (.lst vs)) (h2 : G a = none) (h3 : H0 a = none) (h4 : DenL K G vs xs) (e : asgS nn i (.own xs) δ = some δ') :
    Rel K T δ' (σ.set i (some (.ref a))) G H ∧ GoS nn.1 δ0 δ' σ0 (σ.set i (some (.ref a))) G0 H0 G H := by
  obtain ⟨hi, ⟨s0, q, nl⟩, rfl⟩ := asgS_at e
  have li := lt_some q
  have other : ∀ (j : Nat) (zs : List D), Ow (δ.set i (.own xs))[j]? zs → j ≠ i → Ow δ[j]? zs := fun j zs z hj => by
    rw [List.getElem?_set_ne (Ne.symm hj)] at z
    exact z
  have lσ : i < σ.length := by rw [R.len]; exact li
  have away : ∀ (j : Nat) (b : Addr), OwnAt (δ.set i (.own xs)) (σ.set i (some (.ref a))) j b → j ≠ i → OwnAt δ σ j b := fun j b ⟨⟨zs, z⟩, e⟩ hj => by
    rw [List.getElem?_set_ne (Ne.symm hj)] at e
    exact ⟨⟨zs, other j zs z hj⟩, e⟩
  have here : ∀ b, OwnAt (δ.set i (.own xs)) (σ.set i (some (.ref a))) i b → b = a := fun b ⟨_, e⟩ => by
    rw [List.getElem?_set_self lσ] at e
    cases e
    rfl
  refine ⟨⟨by rw [List.length_set, List.length_set]; exact R.len, R.sub, R.ntb, R.tab, fun j d z => ?_, fun j zs z => ?_, fun j k b o1 o2 => ?_⟩, ⟨⟨g.go.ex, g.go.keep, g.go.live, g.go.new, fun b ⟨j, o⟩ => ?_⟩, List.length_set.trans g.len, fun j zs h => ?_, fun j h => ?_, fun j b h o => ?_⟩⟩
  · by_cases hj : j = i
    · subst hj
      rw [List.getElem?_set_self li] at z
      cases z
    · rw [List.getElem?_set_ne (Ne.symm hj)] at z ⊢
      exact R.val j d z
  · by_cases hj : j = i
    · subst hj
      rw [List.getElem?_set_self li] at z
      rw [List.getElem?_set_self lσ]
      obtain rfl : xs = zs := by
        rcases z with z | z
        · exact Sl.own.inj (Option.some.inj z)
        · cases z
      exact ⟨a, vs, rfl, h1, h2, h4⟩
    · rw [List.getElem?_set_ne (Ne.symm hj)]
      exact R.own j zs (other j zs z hj)
  · by_cases hj : j = i
    · by_cases hk : k = i
      · rw [hj, hk]
      · subst hj
        have eb := here b o1
        subst eb
        exact absurd ⟨k, away k b o2 hk⟩ no
    · by_cases hk : k = i
      · subst hk
        have eb := here b o2
        subst eb
        exact absurd ⟨j, away j b o1 hj⟩ no
      · exact R.sep j k b (away j b o1 hj) (away k b o2 hk)
  · by_cases hj : j = i
    · subst hj
      rw [here b o]
      exact .inr h3
    · exact g.go.grow b ⟨j, away j b o hj⟩
  · obtain ⟨z, zz⟩ := g.lock j zs h
    have hj : i ≠ j := fun y => by
      subst y
      rw [q] at z
      exact nl zs (Option.some.inj z)
    rw [List.getElem?_set_ne hj, List.getElem?_set_ne hj]
    exact ⟨z, zz⟩
  · rw [List.getElem?_set_ne (by omega)]
    exact g.par j h
  · rw [List.getElem?_set_ne (by omega)]
    exact g.fate j b h o
theorem unlockS_ok {lk : Option (Nat × Sl)} (g1 : GoE δ δ1 σ G H G1 H1) (l : LkOk δ δ1 lk) (g2 : GoS np δ1 δ2 σ σ2 G1 H1 G2 H2) (R2 : Rel K T δ2 σ2 G2 H2) : Rel K T (unlockS δ2 lk) σ2 G2 H2 ∧ GoS np δ (unlockS δ2 lk) σ σ2 G H G2 H2 := by
  have g := g1.toS.trans g2
  cases lk with
  | none => exact ⟨R2, g⟩
  | some p =>
    obtain ⟨i, s⟩ := p
    obtain ⟨xs, e, z1, z2⟩ := l
    subst e
    have o := (g2.lock i xs z1).1
    have li := lt_of_ow (.inr o : Ow δ2[i]? xs)
    have ow : ∀ (j : Nat) (zs : List D), Ow (δ2.set i (.own xs))[j]? zs → Ow δ2[j]? zs := fun j zs q => by
      rcases ow_set li q with ⟨hj, z⟩ | ⟨_, z⟩
      · subst hj
        rcases z with z | z
        · cases z
          exact .inr o
        · cases z
      · exact z
    refine ⟨⟨by show σ2.length = (δ2.set i (.own xs)).length; rw [List.length_set]; exact R2.len, R2.sub, R2.ntb, R2.tab, fun j d q => ?_, fun j zs q => R2.own j zs (ow j zs q), fun j k b ⟨⟨zs, z1⟩, e1⟩ ⟨⟨zs', z2⟩, e2⟩ => R2.sep j k b ⟨⟨zs, ow j zs z1⟩, e1⟩ ⟨⟨zs', ow k zs' z2⟩, e2⟩⟩,
      ⟨⟨g.go.ex, g.go.keep, g.go.live, g.go.new, fun b ⟨j, ⟨zs, z⟩, e⟩ => g.go.grow b ⟨j, ⟨zs, ow j zs z⟩, e⟩⟩, g.len, fun j zs q => ?_, g.par, fun j x h hx => ?_⟩⟩
    · have q : (δ2.set i (.own xs))[j]? = some (.val d) := q
      by_cases hj : j = i
      · subst hj
        rw [List.getElem?_set_self li] at q
        cases q
      · rw [List.getElem?_set_ne (Ne.symm hj)] at q
        exact R2.val j d q
    · have hj : j ≠ i := fun y => by
        subst y
        exact z2 zs q
      show (δ2.set i (.own xs))[j]? = _ ∧ _
      rw [List.getElem?_set_ne (Ne.symm hj)]
      exact g.lock j zs q
    · show (∃ ys, Ow (δ2.set i (.own xs))[j]? ys) ∨ _
      by_cases hj : j = i
      · subst hj
        exact .inl ⟨xs, .inl (List.getElem?_set_self li)⟩
      · rw [List.getElem?_set_ne (Ne.symm hj)]
        exact g.fate j x h hx
end

section
variable (Ω : Wd)
def PostS (np : Nat) (W : WX) (σ : L2.St) (δ : List Sl) (G H : Hp) (D : Ends) : SO → Prop
  | .nx δ' => ∀ σ' G' H', Rel Ω.K Ω.T δ' σ' G' H' → GoS np δ δ' σ σ' G H G' H' → D.nx σ' H'
  | .rt (.val d) δ' => ∀ v σ' G' H', Rel Ω.K Ω.T δ' σ' G' H' → GoS np δ δ' σ σ' G H G' H' → Den Ω.K G' v d → D.rt v H'
  | .rt (.new xs) δ' => ∀ a vs σ' G' H', Rel Ω.K Ω.T δ' σ' G' H' → GoS np δ δ' σ σ' G H G' H' → H' a = some (.lst vs) → G' a = none → DenL Ω.K G' vs xs → At np δ σ H a → D.rt (.ref a) H'
  | .ex c d δ' => ∀ v x σ' G' H', Rel Ω.K Ω.T δ' σ' G' H' → GoS np δ δ' σ σ' G H G' H' → H' x = some (.xd [("value", v)]) → Den Ω.K G' v d → W (.ref (Ω.ca c)) (some x) σ' H'
def SS (ts : TS) (W : WX) (np n : Nat) (δ : List Sl) (o : SO) : Prop := ∀ (σ : L2.St) (G H : Hp) (D : Ends), σ.length = n → Rel Ω.K Ω.T δ σ G H → PostS Ω np W σ δ G H D o → ts D σ H
/-- a target -/
def SG (tg : TG) (np n : Nat) (δ : List Sl) (d : D) (δ' : List Sl) : Prop := ∀ (σ : L2.St) (G H : Hp) (v : V) (Q : L2.St → Hp → Prop), σ.length = n → Rel Ω.K Ω.T δ σ G H → Den Ω.K G v d →
  (∀ σ' G' H', Rel Ω.K Ω.T δ' σ' G' H' → GoS np δ δ' σ σ' G H G' H' → Q σ' H') → tg v σ H Q
end
section
variable {Ω : Wd} {W : WX} {np n : Nat} {nn : Nat × Nat} {δ δ1 δ2 δ3 δ' : List Sl} {te ta tb to ti : TE} {r ra rb ro ri : R} {o : SO} {i j x : Nat} {d d' : D}
theorem PostS.from {σ σ1 : L2.St} {G H G1 H1 : Hp} {D : Ends} (post : PostS Ω np W σ δ G H D o) (R1 : Rel Ω.K Ω.T δ1 σ1 G1 H1) (g : GoS np δ δ1 σ σ1 G H G1 H1) : PostS Ω np W σ1 δ1 G1 H1 D o := by
  cases o with
  | nx δ' => exact fun σ' G' H' R' g' => post σ' G' H' R' (g.trans g')
  | rt r δ' =>
    cases r with
    | val d => exact fun v σ' G' H' R' g' dn => post v σ' G' H' R' (g.trans g') dn
    | new xs => exact fun a vs σ' G' H' R' g' h1 h2 h3 h4 => post a vs σ' G' H' R' (g.trans g') h1 h2 h3 (at_back R1 g h4)
  | ex c d δ' => exact fun v x σ' G' H' R' g' h1 h2 => post v x σ' G' H' R' (g.trans g') h1 h2
theorem ss_asg (he : SE Ω te W n δ (.ok r δ1)) (ea : asgR nn i r δ1 = some δ2) : SS Ω (tAsg te (gName i)) W nn.1 n δ (.nx δ2) := fun σ G H D hl Rl post => he σ G H _ hl Rl fun v G1 H1 R1 g1 rv => by
  unfold asgR at ea
  split at ea
  · obtain ⟨a, vs, rfl, h1, h2, h3, h4⟩ := rv
    obtain ⟨R2, g2⟩ := asg_own Rl g1 R1 h1 h2 h3 h4 ea
    exact post _ _ _ R2 g2
  · split at ea
    · rename_i d δ3 ef
      obtain ⟨G3, R3, g3, dn, _⟩ := frz_ok Rl g1 R1 rv ef
      obtain ⟨R4, g4⟩ := asg_val R3 dn ea
      exact post _ _ _ R4 (g3.toS.trans g4)
    · cases ea
theorem ss_exc {g : TG} {c : Nat} (he : SE Ω te W n δ (.exc c d δ1)) : SS Ω (tAsg te g) W np n δ (.ex c d δ1) := fun σ G H D hl Rl post => he σ G H _ hl Rl fun v x G1 H1 R1 g1 hx dn => post v x σ G1 H1 R1 g1.toS hx dn
theorem ss_excD {c : Nat} (he : SE Ω te W n δ (.exc c d δ1)) : SS Ω (tDrop te) W np n δ (.ex c d δ1) := fun σ G H D hl Rl post => he σ G H _ hl Rl fun v x G1 H1 R1 g1 hx dn => post v x σ G1 H1 R1 g1.toS hx dn
theorem ss_excR {c : Nat} (he : SE Ω te W n δ (.exc c d δ1)) : SS Ω (tRet te) W np n δ (.ex c d δ1) := fun σ G H D hl Rl post => he σ G H _ hl Rl fun v x G1 H1 R1 g1 hx dn => post v x σ G1 H1 R1 g1.toS hx dn
theorem ss_exp (he : SE Ω te W n δ (.ok r δ1)) : SS Ω (tDrop te) W np n δ (.nx δ1) := fun σ G H D hl Rl post => he σ G H _ hl Rl fun v G1 H1 R1 g1 rv => post σ G1 H1 R1 g1.toS
theorem ss_ret (he : SE Ω te W n δ (.ok r δ1)) (er : retR nn r δ1 = some o) : SS Ω (tRet te) W nn.1 n δ o := fun σ G H D hl Rl post => he σ G H _ hl Rl fun v G1 H1 R1 g1 rv => by
  unfold retR at er
  split at er
  · cases er
    exact post v σ G1 H1 R1 g1.toS rv
  · cases er
    obtain ⟨a, vs, rfl, h1, h2, h3, h4⟩ := rv
    exact post a vs σ G1 H1 R1 g1.toS h1 h2 h4 (.inr h3)
  · rename_i i
    split at er
    · rename_i xs q
      split at er
      · rename_i lc
        cases er
        obtain ⟨a, vs, e1, h1, h2, h3⟩ := R1.own i xs (.inl q)
        have rv : σ[i]? = some (some v) := rv
        have rv' := rv
        rw [rv] at e1
        cases e1
        have li := lt_some q
        refine post a vs σ G1 H1 (R1.forget li) ?_ h1 h2 h3 (at_back R1 g1.toS (.inl ⟨i, lc.1, ⟨xs, .inl q⟩, rv'⟩))
        have g := g1.toS (np := nn.1)
        refine ⟨⟨g.go.ex, g.go.keep, g.go.live, g.go.new, fun b ⟨j, ⟨zs, z⟩, e⟩ => ?_⟩, g.len, fun j zs h => ?_, g.par, fun j b h hx => ?_⟩
        · rcases ow_set li z with ⟨_, z⟩ | ⟨_, z⟩
          · exact absurd z (Sl.no_ow rfl)
          · exact g.go.grow b ⟨j, ⟨zs, z⟩, e⟩
        · obtain ⟨z1, z2⟩ := g.lock j zs h
          have hj : i ≠ j := fun y => by
            subst y
            rw [z1] at q
            cases q
          rw [List.getElem?_set_ne hj]
          exact ⟨z1, z2⟩
        · rw [List.getElem?_set_ne (by have := lc.1; omega)]
          exact g.fate j b h hx
      · cases er
        obtain ⟨G3, R3, g3, dn, _⟩ := frz_ok (r := .bor i) (d := .lst xs) (δ' := δ1.set i (.val (.lst xs))) Rl g1 R1 rv (by simp only [frz, q])
        exact post v σ G3 H1 R3 g3.toS dn
    · cases er
theorem ss_if {tc : TT} {tx ty : TS} {b : Bool} (hc : ST Ω tc n δ b δ1) (h : SS Ω (if b then tx else ty) W np n δ1 o) : SS Ω (tIfS tc tx ty) W np n δ o := fun σ G H D hl Rl post => hc σ G H _ hl Rl fun G1 H1 R1 g1 => by
  have z := h σ G1 H1 D hl R1 (post.from R1 g1.toS)
  cases b with
  | true => exact z
  | false => exact z
theorem ss_seq {tx ty : TS} (h1 : SS Ω tx W np n δ (.nx δ1)) (h2 : SS Ω ty W np n δ1 o) : SS Ω (tSeq tx ty) W np n δ o := fun σ G H D hl Rl post =>
  h1 σ G H _ hl Rl fun σ1 G1 H1 R1 g1 => h2 σ1 G1 H1 D (g1.len.trans hl) R1 (post.from R1 g1)
theorem ss_seq1 {tx ty : TS} (hn : ∀ δ', o ≠ .nx δ') (h1 : SS Ω tx W np n δ o) : SS Ω (tSeq tx ty) W np n δ o := fun σ G H D hl Rl post => h1 σ G H _ hl Rl (by
  cases o with
  | nx δ' => exact absurd rfl (hn δ')
  | rt r δ' => cases r <;> exact post
  | ex c d δ' => exact post)
theorem ss_raise {c : Nat} (he : SE Ω te W n δ (.ok r δ1)) (ef : frz δ1 r = some (d, δ2)) : SS Ω (tRaise (Ω.ca c) te W) W np n δ (.ex c d δ2) := fun σ G H D hl Rl post => he σ G H _ hl Rl fun v G1 H1 R1 g1 rv x hx => by
  obtain ⟨G3, R3, g3, dn, _⟩ := frz_ok Rl g1 R1 rv ef
  exact post v x σ G3 _ (R3.laid hx) (g3.trans (GoE.laid hx)).toS upd_same dn
theorem ss_par {ta : TA} {rs : List R} {y z : D} {δ4 : List Sl} (h : SA Ω ta W n δ (.ok rs δ1)) (ef : frzs δ1 rs = some ([y, z], δ2)) (e1 : asgS nn i (.val y) δ2 = some δ3) (e2 : asgS nn j (.val z) δ3 = some δ4) : SS Ω (tPar i j ta) W nn.1 n δ (.nx δ4) := fun σ G H D hl Rl post =>
  h σ G H _ hl Rl fun vs G1 H1 R1 g1 rvs => by
    obtain ⟨G2, R2, g2, dn, _⟩ := frzs_ok Rl g1 R1 rvs ef
    cases dn with
    | cons d1 t =>
      cases t with
      | cons d2 t =>
        cases t
        obtain ⟨R3, g3⟩ := asg_val R2 d1 e1
        obtain ⟨R4, g4⟩ := asg_val R3 d2 e2
        exact ⟨_, _, rfl, post _ _ _ R4 ((g2.toS.trans g3).trans g4)⟩
theorem ss_par3 {ta : TA} {rc : R} {l : Nat} {y z : D} {δ4 δ5 : List Sl} (h : SA Ω ta W n δ (.ok [.val y, .val z, rc] δ2)) (e1 : asgS nn i (.val y) δ2 = some δ3) (e2 : asgS nn j (.val z) δ3 = some δ4) (e3 : asgN nn l rc δ4 = some δ5) : SS Ω (tPar3 i j l ta) W nn.1 n δ (.nx δ5) := fun σ G H D hl Rl post =>
  h σ G H _ hl Rl fun vs G2 H1 R2 g2 rvs => by
    cases rvs with
    | @cons v1 vs1 _ _ d1 t1 n1 =>
    cases t1 with
    | @cons v2 vs2 _ _ d2 t2 n2 =>
    cases t2 with
    | @cons v3 vs3 _ _ r3 t3 n3 =>
    cases t3
    obtain ⟨R3, g3⟩ := asg_val R2 d1 e1
    obtain ⟨R4, g4⟩ := asg_val R3 d2 e2
    have g24 := (g2.toS (np := nn.1)).trans (g3.trans g4)
    refine ⟨v1, v2, v3, rfl, ?_⟩
    unfold asgN at e3
    split at e3
    · rename_i xs
      obtain ⟨a, ws, rfl, h1, h2, h3, h4⟩ := r3
      have noE := GoE.un_own Rl g2 h3
      have no4 : ¬ Own δ4 ((σ.set i (some v1)).set j (some v2)) a := fun z => by
        rcases g3.trans g4 |>.go.grow a z with z | z
        · exact noE z
        · rw [h1] at z; cases z
      obtain ⟨R5, g5⟩ := asg_ownS g24 no4 R4 h1 h2 h3 h4 e3
      exact post _ _ _ R5 g5
    · rename_i d
      obtain ⟨R5, g5⟩ := asg_val R4 r3 e3
      exact post _ _ _ R5 (g24.trans g5)
    · cases e3
theorem sg_nm (e : asgS nn i (.val d) δ = some δ') : SG Ω (gName i) nn.1 n δ d δ' := fun σ G H v Q hl Rl dn post => by
  obtain ⟨R1, g1⟩ := asg_val Rl dn e
  exact post _ _ _ R1 g1
theorem setD_ok {K : PySem.W.Frag} {T : List (Addr × Str)} {σ : L2.St} {G H G0 H0 : Hp} {δ0 : List Sl} {vo vi v : V} {rv : R} {Q : Hp → Prop} (R0 : Rel K T δ0 σ G0 H0) (g0 : GoE δ0 δ σ G0 H0 G H) (R : Rel K T δ σ G H) (ho : RV K G H σ H0 vo ro) (hi : RV K G H σ H0 vi ri) (hv : RV K G H σ H0 v rv)
    (e : setD ro ri rv δ = some δ') (q : ∀ G' H', Rel K T δ' σ G' H' → GoE δ0 δ' σ G0 H0 G' H' → Q H') : rSetL vo vi v H Q := by
  unfold setD at e
  split at e
  · rename_i i
    split at e
    · rename_i d δ1 ef
      split at e
      · rename_i xs k eo ek
        split at e
        · rename_i m em
          cases e
          obtain ⟨G1, R1, g1, dn, _⟩ := frz_ok R0 g0 R hv ef
          have ho : σ[i]? = some (some vo) := ho
          obtain ⟨a, ws, z1, z2, z3, z4⟩ := R1.own i xs (.inl eo)
          have z1' := z1
          rw [ho] at z1
          cases z1
          have hk : vi = .int k := by
            have s : See K G1 H vi (.int k) := by
              cases ri with
              | val d' =>
                cases ek
                have hi : Den K G vi (.int k) := hi
                cases hi
                exact .inl (.int k)
              | new ys => cases ek
              | bor l => exact RV.see (r := .bor l) (H0 := H0) hi R1 ek
            exact s.int
          refine ⟨a, ws, k, m, rfl, hk, z2, by rw [z4.length]; exact em, ?_⟩
          exact q G1 _ (R1.put eo z1' (z4.set dn m)) (g1.put R1 eo z1')
        · cases e
      · cases e
    · cases e
  · cases e
theorem ss_sub (he : SE Ω te W n δ (.ok r δ1)) (ho : SE Ω to W n δ1 (.ok ro δ2)) (hi : SE Ω ti W n δ2 (.ok ri δ3)) (e : setD ro ri r δ3 = some δ') : SS Ω (tAsg te (gSub to ti rSetL)) W np n δ (.nx δ') := fun σ G H D hl Rl post =>
  he σ G H _ hl Rl fun v G1 H1 R1 g1 rv => ho σ G1 H1 _ hl R1 fun vo G2 H2 R2 g2 rvo => hi σ G2 H2 _ hl R2 fun vi G3 H3 R3 g3 rvi => by
    have g23 := g2.trans g3
    exact setD_ok Rl (g1.trans g23) R3 ((rvo.stay R1 g2 g3).back g1) (rvi.back (g1.trans g2)) (rv.stay Rl g1 g23) e fun G' H' R' g' => post σ G' H' R' g'.toS
theorem sg_sub (ho : SE Ω to W n δ (.ok ro δ2)) (hi : SE Ω ti W n δ2 (.ok ri δ3)) (e : setD ro ri (.val d) δ3 = some δ') : SG Ω (gSub to ti rSetL) np n δ d δ' := fun σ G H v Q hl Rl dn post =>
  ho σ G H _ hl Rl fun vo G2 H2 R2 g2 rvo => hi σ G2 H2 _ hl R2 fun vi G3 H3 R3 g3 rvi => by
    have g23 := g2.trans g3
    exact setD_ok (rv := .val d) Rl g23 R3 (rvo.stay Rl g2 g3) (rvi.back g2) (dn.mono g23.go.ex) e fun G' H' R' g' => post σ G' H' R' g'.toS
theorem ss_unp {g1 g2 : TG} {y z : D} {δ4 : List Sl} (he : SE Ω te W n δ (.ok r δ1)) (ef : frz δ1 r = some (.tup [y, z], δ2)) (h1 : SG Ω g1 np n δ2 y δ3) (h2 : SG Ω g2 np n δ3 z δ4) : SS Ω (tAsg te (gTup Ω.K 2 (gCons g1 (gCons g2 gNil)))) W np n δ (.nx δ4) := fun σ G H D hl Rl post =>
  he σ G H _ hl Rl fun v G1 H1 R1 q1 rv => by
    obtain ⟨G2, R2, q2, dn, _⟩ := frz_ok Rl q1 R1 rv ef
    cases dn with
    | tup hs t =>
      cases t with
      | cons d1 t =>
        cases t with
        | cons d2 t =>
          cases t
          refine ⟨_, _, rfl, sqT_mono R2.sub hs, rfl, _, _, rfl, h1 σ G2 H1 _ _ hl R2 d1 fun σ3 G3 H3 R3 q3 => ⟨_, _, rfl, h2 σ3 G3 H3 _ _ (q3.len.trans hl) R3 (d2.mono q3.go.ex) fun σ4 G4 H4 R4 q4 => ⟨rfl, ?_⟩⟩⟩
          exact post σ4 G4 H4 R4 ((q2.toS.trans q3).trans q4)
theorem PostS.unlock {lk : Option (Nat × Sl)} {σ σ1 : L2.St} {G H G1 H1 G2 H2 : Hp} {D : Ends} (hn : ∀ δ', o ≠ .nx δ') (post : PostS Ω np W σ δ G H D (unlockO lk o)) (R1 : Rel Ω.K Ω.T δ1 σ G1 H1) (g1 : GoE δ δ1 σ G H G1 H1) (l : LkOk δ δ1 lk) (R2 : Rel Ω.K Ω.T δ2 σ1 G2 H2) (g2 : GoS np δ1 δ2 σ σ1 G1 H1 G2 H2) {N B C : L2.St → Hp → Prop} :
    PostS Ω np W σ1 δ2 G2 H2 ⟨N, D.rt, B, C⟩ o := by
  cases o with
  | nx δ' => exact absurd rfl (hn δ')
  | rt r δ' =>
    cases r with
    | val d =>
      intro v σ' G' H' R' g' dn
      obtain ⟨R3, g3⟩ := unlockS_ok g1 l (g2.trans g') R'
      exact post v σ' G' H' R3 g3 dn
    | new xs =>
      intro a vs σ' G' H' R' g' h1 h2 h3 h4
      obtain ⟨R3, g3⟩ := unlockS_ok g1 l (g2.trans g') R'
      exact post a vs σ' G' H' R3 g3 h1 h2 h3 (at_back R1 g1.toS (at_back R2 g2 h4))
  | ex c d δ' =>
    intro v x σ' G' H' R' g' h1 h2
    obtain ⟨R3, g3⟩ := unlockS_ok g1 l (g2.trans g') R'
    exact post v x σ' G' H' R3 g3 h1 h2
theorem ss_for {wi : TI} {ts : TS} {xs : List D} {lk : Option (Nat × Sl)} {fb : List Sl → Option SO} (hi : SI Ω wi n δ xs δ1 lk) (hb : ∀ δ o, fb δ = some o → SS Ω ts W nn.1 n δ o) (e : frL nn fb x xs δ1 = some o) : SS Ω (tFor wi (gName x) ts) W nn.1 n δ (unlockO lk o) := by
  intro σ G H D hl Rl post
  refine hi σ G H _ hl Rl fun J G1 H1 R1 g1 lko src => ?_
  refine ⟨fun i m σi Hi => i ≤ xs.length ∧ m = xs.length - i ∧ ∃ δi Gi, frL nn fb x (xs.drop i) δi = some o ∧ Rel Ω.K Ω.T δi σi Gi Hi ∧ GoS nn.1 δ1 δi σ σi G1 H1 Gi Hi, ⟨_, Nat.zero_le _, rfl, δ1, G1, e, R1, GoE.refl.toS⟩, ?_⟩
  rintro i m σi Hi ⟨hi', hm, δi, Gi, el, Ri, gi⟩
  have sr : Src Ω.K Gi Hi J xs := src _ _ _ _ ⟨Ri, gi.go.ex, gi.go.keep, gi.lock⟩
  by_cases hx : i < xs.length
  · refine .inr ⟨sr.go i hx, fun σ' H' => ∃ m', m' < m ∧ _, fun σ' H' z => z, fun v H' y => ?_⟩
    obtain ⟨eh, d, e1, dv⟩ := sr.yl i v H' y hx
    subst eh
    rw [List.drop_eq_getElem_cons hx] at el
    have ed : xs[i] = d := by
      rw [List.getElem?_eq_getElem hx] at e1
      exact Option.some.inj e1
    rw [ed] at el
    unfold frL at el
    split at el
    · rename_i δ2 ea
      obtain ⟨R2, g2⟩ := asg_val Ri dv ea
      have g12 := gi.trans g2
      have l2 := g12.len.trans hl
      split at el
      · rename_i δ3 eb
        refine hb _ _ eb _ _ _ _ l2 R2 fun σ3 G3 H3 R3 g3 => ⟨xs.length - (i + 1), by omega, hx, rfl, δ3, G3, el, R3, g12.trans g3⟩
      · rename_i hn
        refine hb _ _ el _ _ _ _ l2 R2 (PostS.unlock (fun δ' z => hn δ' (by rw [el, z])) post R1 g1 lko R2 g12)
    · cases el
  · have hi2 : i = xs.length := by omega
    subst hi2
    rw [List.drop_length] at el
    unfold frL at el
    cases el
    obtain ⟨R3, g3⟩ := unlockS_ok g1 lko gi Ri
    exact .inl ⟨sr.st, post _ _ _ R3 g3⟩
theorem ss_for2 {wi : TI} {ts : TS} {xs : List D} {lk : Option (Nat × Sl)} {fb : List Sl → Option SO} (hi : SI Ω wi n δ xs δ1 lk) (hb : ∀ δ o, fb δ = some o → SS Ω ts W nn.1 n δ o) {y : Nat} (e : frL2 nn fb x y xs δ1 = some o) : SS Ω (tFor wi (gTup Ω.K 2 (gCons (gName x) (gCons (gName y) gNil))) ts) W nn.1 n δ (unlockO lk o) := by
  intro σ G H D hl Rl post
  refine hi σ G H _ hl Rl fun J G1 H1 R1 g1 lko src => ?_
  refine ⟨fun i m σi Hi => i ≤ xs.length ∧ m = xs.length - i ∧ ∃ δi Gi, frL2 nn fb x y (xs.drop i) δi = some o ∧ Rel Ω.K Ω.T δi σi Gi Hi ∧ GoS nn.1 δ1 δi σ σi G1 H1 Gi Hi, ⟨_, Nat.zero_le _, rfl, δ1, G1, e, R1, GoE.refl.toS⟩, ?_⟩
  rintro i m σi Hi ⟨hi', hm, δi, Gi, el, Ri, gi⟩
  have sr : Src Ω.K Gi Hi J xs := src _ _ _ _ ⟨Ri, gi.go.ex, gi.go.keep, gi.lock⟩
  by_cases hx : i < xs.length
  · refine .inr ⟨sr.go i hx, fun σ' H' => ∃ m', m' < m ∧ _, fun σ' H' z => z, fun v H' yy => ?_⟩
    obtain ⟨eh, d, e1, dv⟩ := sr.yl i v H' yy hx
    subst eh
    rw [List.drop_eq_getElem_cons hx] at el
    have ed : xs[i] = d := by
      rw [List.getElem?_eq_getElem hx] at e1
      exact Option.some.inj e1
    rw [ed] at el
    unfold frL2 at el
    split at el
    · rename_i z1 z2
      cases z2
    · rename_i d1 d2 ds eq
      cases eq
      cases dv with
      | tup hs t =>
      cases t with
      | cons dv1 t =>
      cases t with
      | cons dv2 t =>
      cases t
      refine ⟨_, _, rfl, sqT_mono Ri.sub hs, rfl, _, _, rfl, ?_⟩
      split at el
      · rename_i δ2 ea
        obtain ⟨R2, g2⟩ := asg_val Ri dv1 ea
        split at el
        · rename_i δ3 ea2
          obtain ⟨R3, g3⟩ := asg_val R2 dv2 ea2
          have g13 := gi.trans (g2.trans g3)
          have l3 := g13.len.trans hl
          refine ⟨_, _, rfl, rfl, ?_⟩
          split at el
          · rename_i δ4 eb
            refine hb _ _ eb _ _ _ _ l3 R3 fun σ3 G3 H3 R4 g4 => ⟨xs.length - (i + 1), by omega, hx, rfl, δ4, G3, el, R4, g13.trans g4⟩
          · rename_i hn
            refine hb _ _ el _ _ _ _ l3 R3 (PostS.unlock (fun δ' z => hn δ' (by rw [el, z])) post R1 g1 lko R3 g13)
        · cases el
      · cases el
    · cases el
  · have hi2 : i = xs.length := by omega
    subst hi2
    rw [List.drop_length] at el
    unfold frL2 at el
    cases el
    obtain ⟨R3, g3⟩ := unlockS_ok g1 lko gi Ri
    exact .inl ⟨sr.st, post _ _ _ R3 g3⟩
end
end Mn

-- Mn18
set_option Elab.async false
set_option linter.all false
set_option maxRecDepth 100000
set_option maxHeartbeats 1000000
set_option autoImplicit false
namespace Mn
open PySem PySem.Spec L2
section
variable {Ω : Wd} {cf : Nat → List Sl → Option CO} {tf : EO → Option EO} {gd : Gd} {fsp : Nat → Sp} {tsp : (XK → TE) → TE} {n : Nat} {nn : Nat × Nat}
theorem sgT (ok : EvOk Ω cf tf gd fsp tsp n) (t : Tg) (W : WX) (δ : List Sl) (d : D) (δ' : List Sl) (e : asgT cf tf gd nn t d δ = some δ') : SG Ω (rdT Ω.P Ω.w Ω.K Ω.Γ Ω.gv fsp tsp W t) nn.1 n δ d δ' := by
  unfold asgT at e
  split at e
  · simp only [rdT]
    exact sg_nm e
  · simp only [rdT]
    split at e
    · rename_i ro δ1 eo
      split at e
      · rename_i ri δ2 ei
        exact sg_sub (seE ok _ W _ _ eo) (seE ok _ W _ _ ei) e
      · cases e
    · cases e
mutual
theorem ssS (ok : EvOk Ω cf tf gd fsp tsp n) : ∀ (s : S) (W : WX) (δ : List Sl) (o : SO), evS cf tf gd nn s δ = some o → SS Ω (rdS Ω.P Ω.w Ω.K Ω.Γ Ω.gv Ω.ca fsp tsp s W) W nn.1 n δ o
  | .asg i q e p, W, δ, o, h => by
    simp only [evS] at h
    simp only [rdS]
    split at h
    · rename_i r δ1 ee
      split at h
      · rename_i δ2 ea
        cases h
        exact ss_asg (seE ok e W _ _ ee) ea
      · cases h
    · rename_i c d δ1 ee
      cases h
      exact ss_exc (seE ok e W _ _ ee)
    · cases h
  | .par i j q1 q2 k tp a b k2 vp p, W, δ, o, h => by
    simp only [evS] at h
    simp only [rdS]
    split at h
    · rename_i rs δ1 ee
      split at h
      · rename_i x y δ2 ef
        split at h
        · rename_i δ3 e1
          split at h
          · rename_i δ4 e2
            cases h
            have := seA ok (.cons a (.cons b .nil)) W _ _ ee
            simp only [rdA] at this
            exact ss_par this ef e1 e2
          · cases h
        · cases h
      · cases h
    · cases h
  | .unp t1 t2 k tp e p, W, δ, o, h => by
    simp only [evS] at h
    simp only [rdS]
    split at h
    · rename_i r δ1 ee
      split at h
      · rename_i x y δ2 ef
        split at h
        · rename_i δ3 e1
          split at h
          · rename_i δ4 e2
            cases h
            exact ss_unp (seE ok e W _ _ ee) ef (sgT ok t1 W _ _ _ e1) (sgT ok t2 W _ _ _ e2)
          · cases h
        · cases h
      · cases h
    · cases h
  | .sub o' i q e p, W, δ, o, h => by
    simp only [evS] at h
    simp only [rdS]
    split at h
    · rename_i r δ1 ee
      split at h
      · rename_i ro δ2 eo
        split at h
        · rename_i ri δ3 ei
          split at h
          · rename_i δ4 es
            cases h
            exact ss_sub (seE ok e W _ _ ee) (seE ok o' W _ _ eo) (seE ok i W _ _ ei) es
          · cases h
        · cases h
      · cases h
    · cases h
  | .exp e p, W, δ, o, h => by
    simp only [evS] at h
    simp only [rdS]
    split at h
    · rename_i r δ1 ee
      cases h
      exact ss_exp (seE ok e W _ _ ee)
    · rename_i c d δ1 ee
      cases h
      exact ss_excD (seE ok e W _ _ ee)
    · cases h
  | .ret e p, W, δ, o, h => by
    simp only [evS] at h
    simp only [rdS]
    split at h
    · rename_i r δ1 ee
      exact ss_ret (seE ok e W _ _ ee) h
    · rename_i c d δ1 ee
      cases h
      exact ss_excR (seE ok e W _ _ ee)
    · cases h
  | .iff c a b p, W, δ, o, h => by
    simp only [evS] at h
    simp only [rdS]
    split at h
    · rename_i nf
      split at h
      · rename_i r δ1 ec
        split at h
        · rename_i sb
          exact ss_if (b := true) (stE ok c W _ _ _ nf ec true sb) (ssSs ok a W _ _ h)
        · rename_i sb
          exact ss_if (b := false) (stE ok c W _ _ _ nf ec false sb) (ssSs ok b W _ _ h)
        · cases h
      · cases h
    · cases h
  | .fr x xp it b p, W, δ, o, h => by
    simp only [evS] at h
    simp only [rdS]
    split at h
    · rename_i xs δ1 lk ei
      split at h
      · rename_i o' ef
        cases h
        exact ss_for (seI ok it W _ _ _ _ ei) (fun δ o hb => ssSs ok b W _ _ hb) ef
      · cases h
    · cases h
  | .raise c q e p1 p, W, δ, o, h => by
    simp only [evS] at h
    simp only [rdS]
    split at h
    · rename_i r δ1 ee
      split at h
      · rename_i d δ2 ef
        cases h
        exact ss_raise (seE ok e W _ _ ee) ef
      · cases h
    · cases h
  | .par3 i j l q1 q2 q3 k tp a b c k2 vp p, W, δ, o, h => by
    simp only [evS] at h
    simp only [rdS]
    split at h
    · rename_i x y rc δ2 ee
      split at h
      · rename_i δ3 e1
        split at h
        · rename_i δ4 e2
          split at h
          · rename_i δ5 e3
            cases h
            have := seA ok (.cons a (.cons b (.cons c .nil))) W _ _ ee
            simp only [rdA] at this
            exact ss_par3 this e1 e2 e3
          · cases h
        · cases h
      · cases h
    · cases h
  | .frt x y xp yp k tp it b p, W, δ, o, h => by
    simp only [evS] at h
    simp only [rdS]
    split at h
    · rename_i xs δ1 lk ei
      split at h
      · rename_i o' ef
        cases h
        exact ss_for2 (seI ok it W _ _ _ _ ei) (fun δ o hb => ssSs ok b W _ _ hb) ef
      · cases h
    · cases h
theorem ssSs (ok : EvOk Ω cf tf gd fsp tsp n) : ∀ (ss : Ss) (W : WX) (δ : List Sl) (o : SO), evSs cf tf gd nn ss δ = some o → SS Ω (rdSs Ω.P Ω.w Ω.K Ω.Γ Ω.gv Ω.ca fsp tsp ss W) W nn.1 n δ o
  | .nil, W, δ, o, h => by
    simp only [evSs] at h
    simp only [rdSs]
    cases h
    exact fun σ G H D hl Rl post => post σ G H Rl GoE.refl.toS
  | .cons s ss, W, δ, o, h => by
    simp only [evSs] at h
    simp only [rdSs]
    split at h
    · rename_i δ1 e1
      exact ss_seq (ssS ok s W _ _ e1) (ssSs ok ss W _ _ h)
    · rename_i hn
      exact ss_seq1 (fun δ' z => hn δ' (by rw [h, z])) (ssS ok s W _ _ h)
end
end
end Mn

-- Mn19
set_option Elab.async false
set_option linter.all false
set_option maxRecDepth 100000
set_option maxHeartbeats 1000000
set_option autoImplicit false
namespace Mn
open PySem PySem.Spec L2

/-! ## defs -/
theorem backA_len : ∀ (as δ : List Sl), (backA as δ).length = as.length
  | [], _ => by simp [backA]
  | s :: as, [] => by cases s <;> simp [backA]
  | .val d :: as, t :: δ => by simp [backA, backA_len as δ]
  | .un :: as, t :: δ => by simp [backA, backA_len as δ]
  | .own xs :: as, t :: δ => by simp [backA, backA_len as δ]
  | .lock xs :: as, t :: δ => by simp [backA, backA_len as δ]
theorem backA_at : ∀ (as δ : List Sl) (i : Nat) (s : Sl), (backA as δ)[i]? = some s → as[i]? = some s ∨ ((∃ xs, Ow as[i]? xs) ∧ δ[i]? = some s)
  | [], _, i, s, h => by simp [backA] at h
  | a :: as, [], i, s, h => by
    have : backA (a :: as) [] = a :: as := by cases a <;> rfl
    rw [this] at h
    exact .inl h
  | a :: as, t :: δ, 0, s, h => by
    cases a with
    | val d => exact .inl h
    | un => exact .inl h
    | own xs => exact .inr ⟨⟨xs, .inl rfl⟩, h⟩
    | lock xs => exact .inr ⟨⟨xs, .inr rfl⟩, h⟩
  | a :: as, t :: δ, i + 1, s, h => by
    have h' : (backA as δ)[i]? = some s := by
      cases a <;> exact h
    rcases backA_at as δ i s h' with z | ⟨z1, z2⟩
    · exact .inl (by simpa using z)
    · exact .inr ⟨by simpa using z1, by simpa using z2⟩
theorem backA_ow : ∀ (as δ : List Sl) (i : Nat) (xs : List D) (s : Sl), Ow as[i]? xs → δ[i]? = some s → (backA as δ)[i]? = some s
  | [], _, i, xs, s, h, _ => by rcases h with h | h <;> simp at h
  | a :: as, [], i, xs, s, _, h => by simp at h
  | a :: as, t :: δ, 0, xs, s, h, e => by
    cases a with
    | val d => rcases h with h | h <;> cases h
    | un => rcases h with h | h <;> cases h
    | own xs => exact e
    | lock xs => exact e
  | a :: as, t :: δ, i + 1, xs, s, h, e => by
    have z := backA_ow as δ i xs s (by simpa using h) (by simpa using e)
    cases a <;> exact z
section
variable {K : PySem.W.Frag} {T : List (Addr × Str)} {as δ' : List Sl} {vs : List V} {σ' : L2.St} {G H G' H' : Hp} {m : Nat}
/-- the frame at the entry -/
def fr0 (as : List Sl) (m : Nat) : List Sl := as ++ List.replicate m .un
def st0 (vs : List V) (m : Nat) : L2.St := vs.map some ++ List.replicate m none
theorem fr0_lt {i : Nat} (h : i < as.length) : (fr0 as m)[i]? = as[i]? := List.getElem?_append_left h
theorem fr0_ow {i : Nat} {xs : List D} (h : Ow (fr0 as m)[i]? xs) : i < as.length ∧ Ow as[i]? xs := by
  by_cases hi : i < as.length
  · rw [fr0_lt hi] at h
    exact ⟨hi, h⟩
  · unfold fr0 at h
    rw [List.getElem?_append_right (by omega)] at h
    rcases h with h | h
    · have := List.mem_of_getElem? h
      rw [List.mem_replicate] at this
      cases this.2
    · have := List.mem_of_getElem? h
      rw [List.mem_replicate] at this
      cases this.2
theorem fr0_val {i : Nat} {d : D} (h : (fr0 as m)[i]? = some (.val d)) : i < as.length ∧ as[i]? = some (.val d) := by
  by_cases hi : i < as.length
  · rw [fr0_lt hi] at h
    exact ⟨hi, h⟩
  · unfold fr0 at h
    rw [List.getElem?_append_right (by omega)] at h
    have := List.mem_of_getElem? h
    rw [List.mem_replicate] at this
    cases this.2
theorem st0_lt {i : Nat} (h : i < vs.length) : (st0 vs m)[i]? = (vs.map some)[i]? := List.getElem?_append_left (by rw [List.length_map]; exact h)
theorem fr0_own (l : vs.length = as.length) {i : Nat} {a : Addr} (h : OwnAt (fr0 as m) (st0 vs m) i a) : i < as.length ∧ OwnAt as (vs.map some) i a := by
  obtain ⟨⟨xs, z⟩, e⟩ := h
  obtain ⟨hi, z⟩ := fr0_ow z
  rw [st0_lt (by omega)] at e
  exact ⟨hi, ⟨xs, z⟩, e⟩
theorem fr0_own' (l : vs.length = as.length) {i : Nat} {a : Addr} (h : OwnAt as (vs.map some) i a) : OwnAt (fr0 as m) (st0 vs m) i a := by
  obtain ⟨⟨xs, z⟩, e⟩ := h
  have hi := lt_of_ow z
  exact ⟨⟨xs, by rw [fr0_lt hi]; exact z⟩, by rw [st0_lt (by omega)]; exact e⟩
theorem fr0_rel (R : Rel K T as (vs.map some) G H) : Rel K T (fr0 as m) (st0 vs m) G H := by
  have l : vs.length = as.length := by have := R.len; rw [List.length_map] at this; exact this
  refine ⟨by unfold fr0 st0; rw [List.length_append, List.length_append, List.length_map, List.length_replicate, List.length_replicate, l], R.sub, R.ntb, R.tab, fun i d h => ?_, fun i xs h => ?_, fun i j a o1 o2 => ?_⟩
  · obtain ⟨hi, h⟩ := fr0_val h
    rw [st0_lt (by omega)]
    exact R.val i d h
  · obtain ⟨hi, h⟩ := fr0_ow h
    rw [st0_lt (by omega)]
    exact R.own i xs h
  · exact R.sep i j a (fr0_own l o1).2 (fr0_own l o2).2
theorem back_ok (R0 : Rel K T as (vs.map some) G H) (R' : Rel K T δ' σ' G' H') (g : GoS as.length (fr0 as m) δ' (st0 vs m) σ' G H G' H') : Rel K T (backA as δ') (vs.map some) G' H' ∧ GoE as (backA as δ') (vs.map some) G H G' H' := by
  have l : vs.length = as.length := by have := R0.len; rw [List.length_map] at this; exact this
  have same : ∀ i, i < as.length → σ'[i]? = (vs.map some)[i]? := fun i hi => (g.par i hi).trans (st0_lt (by omega))
  have ow : ∀ i xs, Ow (backA as δ')[i]? xs → i < as.length ∧ (∃ ys, Ow as[i]? ys) ∧ Ow δ'[i]? xs := fun i xs h => by
    have key : ∀ s, (backA as δ')[i]? = some s → Ow (some s) xs → i < as.length ∧ (∃ ys, Ow as[i]? ys) ∧ δ'[i]? = some s ∨ i < as.length ∧ as[i]? = some s := fun s e o => by
      have li : i < as.length := by rw [← backA_len as δ']; exact lt_some e
      rcases backA_at as δ' i s e with z | ⟨z1, z2⟩
      · exact .inr ⟨li, z⟩
      · exact .inl ⟨li, z1, z2⟩
    have fin : ∀ s, (backA as δ')[i]? = some s → Ow (some s) xs → i < as.length ∧ (∃ ys, Ow as[i]? ys) ∧ Ow δ'[i]? xs := fun s e o => by
      rcases key s e o with ⟨h1, h2, h3⟩ | ⟨h1, h2⟩
      · exact ⟨h1, h2, by rw [h3]; exact o⟩
      · have oa : Ow as[i]? xs := by rw [h2]; exact o
        have ld : i < δ'.length := by
          have h3 := R'.len
          have h4 := g.len
          rw [← h3, h4]
          unfold st0
          rw [List.length_append, List.length_map]
          omega
        have e2 := backA_ow as δ' i xs δ'[i] oa (List.getElem?_eq_getElem ld)
        rw [e] at e2
        cases e2
        exact ⟨h1, ⟨xs, oa⟩, by rw [List.getElem?_eq_getElem ld]; exact o⟩
    rcases h with h | h
    · exact fin _ h (.inl rfl)
    · exact fin _ h (.inr rfl)
  have own : ∀ i a, OwnAt (backA as δ') (vs.map some) i a → i < as.length ∧ OwnAt δ' σ' i a := fun i a ⟨⟨xs, z⟩, e⟩ => by
    obtain ⟨h1, _, h3⟩ := ow i xs z
    exact ⟨h1, ⟨xs, h3⟩, by rw [same i h1]; exact e⟩
  refine ⟨⟨by rw [backA_len, List.length_map]; exact l, R'.sub, R'.ntb, R'.tab, fun i d h => ?_, fun i xs h => ?_, fun i j a o1 o2 => R'.sep i j a (own i a o1).2 (own j a o2).2⟩,
    ⟨⟨g.go.ex, fun b o q n t => g.go.keep b o q (fun ⟨i, z⟩ => n ⟨i, (fr0_own l z).2⟩) t, g.go.live, fun b o q => ?_, fun b ⟨i, z⟩ => ?_⟩, fun i xs h => (ow i xs h).2.1, fun i xs h => ?_, fun i a h => ?_⟩⟩
  · have li : i < as.length := by rw [← backA_len as δ']; exact lt_some h
    rcases backA_at as δ' i _ h with z | ⟨_, z⟩
    · obtain ⟨v, e1, e2⟩ := R0.val i d z
      exact ⟨v, e1, e2.mono g.go.ex⟩
    · obtain ⟨v, e1, e2⟩ := R'.val i d z
      rw [same i li] at e1
      exact ⟨v, e1, e2⟩
  · obtain ⟨h1, _, h3⟩ := ow i xs h
    obtain ⟨a, ws, e1, e2⟩ := R'.own i xs h3
    rw [same i h1] at e1
    exact ⟨a, ws, e1, e2⟩
  · rcases g.go.new b o q with z | z | ⟨i, z⟩
    · exact .inl z
    · exact .inr (.inl z)
    · exact .inr (.inr ⟨i, (fr0_own l z).2⟩)
  · rcases g.go.grow b ⟨i, (own i b z).2⟩ with ⟨j, z⟩ | z
    · exact .inl ⟨j, (fr0_own l z).2⟩
    · exact .inr z
  · have hi := lt_of_ow (.inr h : Ow as[i]? xs)
    have z := (g.lock i xs (by rw [fr0_lt hi]; exact h)).1
    exact backA_ow as δ' i xs _ (.inr h) z
  · have hi := lt_of_ow h.1.choose_spec
    rcases g.fate i a hi (fr0_own' l h) with ⟨xs, z⟩ | z
    · obtain ⟨ys, y⟩ := h.1
      rcases z with z | z
      · exact .inl ⟨xs, .inl (backA_ow as δ' i ys _ y z)⟩
      · exact .inl ⟨xs, .inr (backA_ow as δ' i ys _ y z)⟩
    · exact .inr z
end
end Mn

-- Mn20
set_option Elab.async false
set_option linter.all false
set_option maxRecDepth 100000
set_option maxHeartbeats 1000000
set_option autoImplicit false
namespace Mn
open PySem PySem.Spec L2 PyProof.Rows

/-! ## a def keeps its promise -/
/-- how the def's parameters are bound: by position, all of them; or all in one tuple -/
def BindOk (fd : FuncData) (star : Bool) (ps : List Str) (ks : List (List Str)) : Prop :=
  (star = false → ∀ (s : Shared) (us : List Value), us.length = ps.length → BindsTo s fd ⟨us, []⟩ (ps.zip us)) ∧
  (star = true → ∃ pv, ps = [pv] ∧ ∀ rest : List Value, bindArgs fd ⟨rest, []⟩ = (newTuple rest >>= fun t => pure [(pv, t)])) ∧
  (∀ k ∈ ks, star = false ∧ k.length = ps.length ∧ ∀ (s : Shared) (us : List Value), us.length = ps.length → BindsTo s fd ⟨[], k.zip us⟩ (ps.zip us))
/-- what stands written of the def x at a -/
structure DefOk (Ω : Wd) (x q : Str) (a : Addr) (F : Fn) (N ps : List Str) (sc : Scope) (lm : Bool) (ks : List (List Str)) : Prop where
  S : FnScope N ps sc
  wf : wfSs Ω.Γ N ⟨sc, lm⟩ F.body = true
  ns : N.length = F.ns
  np : ps.length = F.np
  ex : ∃ (params : Arguments) (dV kV doc pm cdv ct oc : Value) (an od : Option Addr) (osl : Array (Option Value)),
    Ω.K.lookup a = some ⟨oc, od, .func (PySem.W.fnOf x q params (upSs Ω.Γ N F.body) sc dV kV doc pm an cdv ct), osl⟩ ∧ PySem.W.codeIn Ω.K cdv q = true ∧ BindOk (PySem.W.fnOf x q params (upSs Ω.Γ N F.body) sc dV kV doc pm an cdv ct) F.star ps ks ∧
    (lm = true → ∃ c P, cdv = .ref c ∧ LamX.TabB Ω.base Ω.mg c P ∧ (P, q ++ ".<locals>." ++ "<lambda>") ∈ Ω.T ∧ ∀ p ∈ Ω.T, p.1 = P → p.2 = q ++ ".<locals>." ++ "<lambda>")
section
variable {Ω : Wd} {fns : List Ent} {tf : EO → Option EO} {gd : Gd} {tsp : (XK → TE) → TE} {k : Nat}
/-- the promise of a def, its calls being k deep -/
abbrev spR (Ω : Wd) (fns : List Ent) (tf : EO → Option EO) (gd : Gd) (k f : Nat) : Sp := SpF Ω (run fns tf gd k f)
theorem post_of {as : List Sl} {vs : List V} {G H : Hp} {Q : VK} {E : XK} {o : SO} {co : CO} {m : Nat} (R0 : Rel Ω.K Ω.T as (vs.map some) G H) (e : endF as (some o) = some co) (post : PostF Ω as vs G H Q E co) :
    PostS Ω as.length (fun cls d _ H => E cls d H) (st0 vs m) (fr0 as m) G H { nx := fun _ H' => Q .non H', rt := Q } o := by
  cases o with
  | nx δ' =>
    cases e
    intro σ' G' H' R' g
    obtain ⟨R1, g1⟩ := back_ok R0 R' g
    exact post _ _ _ R1 g1 .non
  | rt r δ' =>
    cases e
    cases r with
    | val d =>
      intro v σ' G' H' R' g dn
      obtain ⟨R1, g1⟩ := back_ok R0 R' g
      exact post _ _ _ R1 g1 dn
    | new xs =>
      intro a ws σ' G' H' R' g h1 h2 h3 h4
      obtain ⟨R1, g1⟩ := back_ok R0 R' g
      have l : vs.length = as.length := by have := R0.len; rw [List.length_map] at this; exact this
      refine post _ _ _ R1 g1 ⟨a, ws, rfl, h1, h2, ?_, h3⟩
      rcases h4 with ⟨j, hj, z⟩ | z
      · have := (fr0_own l z).1
        omega
      · exact z
  | ex c d δ' =>
    cases e
    intro v x σ' G' H' R' g hx dn
    obtain ⟨R1, g1⟩ := back_ok R0 R' g
    exact post _ _ _ _ R1 g1 hx dn
theorem good_def {q : Str} {a : Addr} {N ps : List Str} {sc : Scope} {lm : Bool} {cdv : Value} {A : Around} {outer : List Env} {s : Shared} {H : Hp} {E : XK} {lv : Nat} (S : FnScope N ps sc)
    (hl : lm = true → ∃ c P, cdv = .ref c ∧ LamX.TabB Ω.base Ω.mg c P ∧ (P, q ++ ".<locals>." ++ "<lambda>") ∈ Ω.T ∧ ∀ p ∈ Ω.T, p.1 = P → p.2 = q ++ ".<locals>." ++ "<lambda>")
    (hr : Room (lv + 4) (A.deeper (envOfC q sc s.heap.objs.size a cdv))) (hg : A.guards = some []) : Good Ω N ⟨sc, lm⟩ lv (cxOf (L2.CX Ω.P Ω.w) Ω.P Ω.w Ω.K Ω.mg Ω.base N q sc a cdv A outer s H E) :=
  ⟨rfl, rfl, rfl, rfl, rfl, rfl, S.nd, rfl, fun z => by
    obtain ⟨c, P, e, h1, h2, h3⟩ := hl z
    exact ⟨hr, c, P, e, h1, h2, h3⟩, rfl, hr.mono (by omega), hg, passes_of (X := cxOf (L2.CX Ω.P Ω.w) Ω.P Ω.w Ω.K Ω.mg Ω.base N q sc a cdv A outer s H E) rfl⟩
variable {f : Nat} {x q : Str} {a : Addr} {F : Fn} {N ps : List Str} {sc : Scope} {lm : Bool} {ks : List (List Str)}
theorem fn_any (D : DefOk Ω x q a F N ps sc lm ks) (hf : fns[f]? = some (.fn F)) (hs : F.star = false) (fx : Facts Ω (spR Ω fns tf gd k) (5 * k)) (tl : TellOk Ω N (5 * k) tsp) (ra : RaiOk Ω (5 * k)) (ok : EvOk Ω (run fns tf gd k) tf gd (spR Ω fns tf gd k) tsp F.ns) {mk : List Value → Args}
    (hb : ∀ (fd : FuncData), BindOk fd F.star ps ks → ∀ (s : Shared) (us : List Value), us.length = ps.length → BindsTo s fd (mk us) (ps.zip us)) : FnGA Ω (5 * (k + 1)) a mk (spR Ω fns tf gd (k + 1) f) := by
  intro A outer s H us vs Q E hr hg e0 r h
  obtain ⟨as, G, co, er, R0, post⟩ := h
  obtain ⟨params, dV, kV, doc, pm, cdv, ct, oc, an, od, osl, lk, hcd, bo, hl⟩ := D.ex
  have l : vs.length = as.length := by have := R0.len; rw [List.length_map] at this; exact this
  unfold run at er
  rw [hf] at er
  simp only [hs] at er
  rw [if_neg (by decide)] at er
  split at er
  · rename_i hn
    have lps : vs.length = ps.length := by rw [l, hn, D.np]
    refine LamX.run_ofS (k := 5 * k + 4) (N := N) (ps := ps) (us := us) (vs := vs) lk hcd D.S hr e0 (hb _ bo s us (by rw [← r.length]; exact lps)) r lps fun hr' => ?_
    have g := good_def (E := E) (outer := outer) (H := H) D.S hl hr' hg
    refine ⟨_, psSs fx tl ra F.body ⟨sc, lm⟩ D.S.kind D.wf _ (fun cls d _ H => E cls d H) g ⟨fun _ _ => .inl rfl, hr'.mono (by omega)⟩ (takes_of rfl rfl rfl rfl), ?_⟩
    cases eo : evSs (run fns tf gd k) tf gd (F.np, F.ns) F.body (as ++ List.replicate (F.ns - F.np) .un) with
    | none => rw [eo] at er; cases er
    | some o =>
      rw [eo] at er
      have es : L2.start N vs = st0 vs (F.ns - F.np) := by
        unfold L2.start st0
        rw [D.ns, l, hn]
      rw [es]
      have hle : ps.length ≤ N.length := by
        have := D.S.pre
        rw [← this, List.length_take]
        omega
      have hlen : (st0 vs (F.ns - F.np)).length = F.ns := by
        unfold st0
        rw [List.length_append, List.length_map, List.length_replicate, l, hn, ← D.np, ← D.ns]
        omega
      have z := ssSs ok F.body (fun cls d _ H => E cls d H) _ _ eo (st0 vs (F.ns - F.np)) G H { nx := fun _ H' => Q .non H', rt := Q } hlen (fr0_rel R0)
      have hn' : as.length = (F.np, F.ns).1 := hn
      rw [← hn'] at z
      exact z (post_of R0 er post)
  · cases er
theorem vals_den {K : PySem.W.Frag} {T : List (Addr × Str)} {G H : Hp} : ∀ {as : List Sl} {vs : List V} {ds : List Mn.D}, (∀ (i : Nat) (d : Mn.D), as[i]? = some (.val d) → ∃ v, (vs.map some)[i]? = some (some v) ∧ Den K G v d) → vs.length = as.length → vals as = some ds → DenL K G vs ds
  | [], [], ds, _, _, e => by cases e; exact .nil
  | [], v :: vs, ds, _, l, _ => by simp at l
  | s :: as, [], ds, _, l, _ => by simp at l
  | s :: as, v :: vs, ds, h, l, e => by
    cases s <;> simp only [vals] at e <;> first | (cases e; done) | skip
    rename_i d
    obtain ⟨ms, q1, q2⟩ := Option.map_eq_some_iff.mp e
    subst q2
    obtain ⟨v', e1, e2⟩ := h 0 d rfl
    simp at e1
    subst e1
    exact .cons e2 (vals_den (T := T) (H := H) (fun i d z => by simpa using h (i + 1) d (by simpa using z)) (by simpa using l) q1)
theorem vals_no {as : List Sl} {ds : List Mn.D} (e : vals as = some ds) : ∀ (i : Nat) (s : Sl), as[i]? = some s → ∃ d, s = .val d := by
  induction as generalizing ds with
  | nil => intro i s h; simp at h
  | cons a as ih =>
    intro i s h
    cases a <;> simp only [vals] at e <;> first | (cases e; done) | skip
    rename_i d
    obtain ⟨ms, q1, q2⟩ := Option.map_eq_some_iff.mp e
    cases i with
    | zero => simp at h; exact ⟨d, h.symm⟩
    | succ i => exact ih q1 i s (by simpa using h)
theorem star_back {K : PySem.W.Frag} {T : List (Addr × Str)} {as δ' : List Sl} {vs : List V} {σ' : L2.St} {G H G' H' : Hp} {m : Nat} {p : Addr} {ds : List Mn.D} (R0 : Rel K T as (vs.map some) G H) (hp : H p = none) (ev : vals as = some ds) (R' : Rel K T δ' σ' G' H')
    (g : GoS 1 (fr0 [.val (.tup ds)] m) δ' (st0 [.ref p] m) σ' (upd G p (.tup vs)) (upd H p (.tup vs)) G' H') : Rel K T as (vs.map some) G' H' ∧ GoE as as (vs.map some) G H G' H' := by
  have sG := same_new2 (o := .tup vs) (R0.gfree hp)
  have sH := same_new2 (o := .tup vs) hp
  have no0 : ∀ b, ¬ Own (fr0 [.val (.tup ds)] m) (st0 [.ref p] m) b := fun b ⟨i, o⟩ => by
    obtain ⟨_, ⟨xs, z⟩, _⟩ := fr0_own (vs := [.ref p]) (as := [.val (.tup ds)]) rfl o
    cases i with
    | zero => rcases z with z | z <;> simp at z
    | succ i => rcases z with z | z <;> simp at z
  have noA : ∀ (i : Nat) (xs : List Mn.D), ¬ Ow as[i]? xs := fun i xs z => by
    rcases z with z | z
    · obtain ⟨d, q⟩ := vals_no ev i _ z
      cases q
    · obtain ⟨d, q⟩ := vals_no ev i _ z
      cases q
  refine ⟨⟨R0.len, R'.sub, R'.ntb, R'.tab, fun i d h => ?_, fun i xs h => absurd h (noA i xs), fun i j b ⟨⟨xs, z⟩, _⟩ _ => absurd z (noA i xs)⟩,
    ⟨⟨sG.trans g.go.ex, fun b o q n t => g.go.keep b o (sH _ _ q) (no0 b) t, fun b o q => g.go.live b o (sH _ _ q), fun b o q => ?_, fun b ⟨i, ⟨xs, z⟩, _⟩ => absurd z (noA i xs)⟩, fun i xs h => absurd h (noA i xs), fun i xs h => absurd (.inr h) (noA i xs), fun i b ⟨⟨xs, z⟩, _⟩ => absurd z (noA i xs)⟩⟩
  · obtain ⟨v, e1, e2⟩ := R0.val i d h
    exact ⟨v, e1, e2.mono (sG.trans g.go.ex)⟩
  · rcases g.go.new b o q with z | z | z
    · by_cases hb : b = p
      · rw [hb]
        exact .inr (.inl hp)
      · rw [upd_ne hb] at z
        exact .inl z
    · by_cases hb : b = p
      · rw [hb, upd_same] at z
        cases z
      · rw [upd_ne hb] at z
        exact .inr (.inl z)
    · exact absurd z (no0 b)
theorem post_star {as : List Sl} {vs : List V} {G H : Hp} {Q : VK} {E : XK} {o : SO} {co : CO} {m : Nat} {p : Addr} {ds : List Mn.D} (R0 : Rel Ω.K Ω.T as (vs.map some) G H) (hp : H p = none) (ev : vals as = some ds)
    (e : (match (some o : Option SO) with | some (.nx _) => some (CO.ret (.val .non) as) | some (.rt r _) => some (.ret r as) | some (.ex c d _) => some (.exc c d as) | none => none) = some co) (post : PostF Ω as vs G H Q E co) :
    PostS Ω 1 (fun cls d _ H => E cls d H) (st0 [.ref p] m) (fr0 [.val (.tup ds)] m) (upd G p (.tup vs)) (upd H p (.tup vs)) { nx := fun _ H' => Q .non H', rt := Q } o := by
  cases o with
  | nx δ' =>
    cases e
    intro σ' G' H' R' g
    obtain ⟨R1, g1⟩ := star_back R0 hp ev R' g
    exact post _ _ _ R1 g1 .non
  | rt r δ' =>
    cases e
    cases r with
    | val d =>
      intro v σ' G' H' R' g dn
      obtain ⟨R1, g1⟩ := star_back R0 hp ev R' g
      exact post _ _ _ R1 g1 dn
    | new xs =>
      intro a ws σ' G' H' R' g h1 h2 h3 h4
      obtain ⟨R1, g1⟩ := star_back R0 hp ev R' g
      refine post _ _ _ R1 g1 ⟨a, ws, rfl, h1, h2, ?_, h3⟩
      rcases h4 with ⟨j, hj, z⟩ | z
      · have := (fr0_own (vs := [.ref p]) (as := [.val (.tup ds)]) rfl z).1
        simp at this
        omega
      · by_cases hb : a = p
        · rw [hb]; exact hp
        · rw [upd_ne hb] at z
          exact z
  | ex c d δ' =>
    cases e
    intro v x σ' G' H' R' g hx dn
    obtain ⟨R1, g1⟩ := star_back R0 hp ev R' g
    exact post _ _ _ _ R1 g1 hx dn
theorem fn_star (D : DefOk Ω x q a F N ps sc lm ks) (hf : fns[f]? = some (.fn F)) (hs : F.star = true) (fx : Facts Ω (spR Ω fns tf gd k) (5 * k)) (tl : TellOk Ω N (5 * k) tsp) (ra : RaiOk Ω (5 * k)) (ok : EvOk Ω (run fns tf gd k) tf gd (spR Ω fns tf gd k) tsp F.ns) : FnG Ω (5 * (k + 1)) a (spR Ω fns tf gd (k + 1) f) := by
  intro A outer s H us vs Q E hr hg e0 r h
  obtain ⟨as, G, co, er, R0, post⟩ := h
  obtain ⟨params, dV, kV, doc, pm, cdv, ct, oc, an, od, osl, lk, hcd, bo, hl⟩ := D.ex
  have l : vs.length = as.length := by have := R0.len; rw [List.length_map] at this; exact this
  obtain ⟨pv, rfl, hbind⟩ := bo.2.1 hs
  unfold run at er
  rw [hf] at er
  simp only [hs] at er
  rw [if_pos True.intro] at er
  split at er
  · rename_i ds ev
    split at er
    · rename_i hz
      have dn : DenL Ω.K G vs ds := vals_den (T := Ω.T) (H := H) R0.val l ev
      have hzv : vs.length ≤ sizeLine := by rw [dn.length]; exact le_big hz
      have hn : H s.heap.objs.size = none := e0.hok.fresh (Nat.le_refl _)
      have hl2 : us.length ≤ sizeLine := by rw [← r.length]; exact hzv
      refine StX.run_bnd (k := 5 * k + 4) lk hcd D.S hr e0 (G := fun xs H2 => ∃ p, H p = none ∧ xs = [V.ref p] ∧ H2 = upd H p (.tup vs)) (fun A' Ex Q' h => ?_) fun s2 H2 xs ⟨p, hp, ex, eH⟩ hr' => ?_
      · rw [hbind us]
        refine wpAny_bind (wpAny_newTuple (wpAny_pure ?_) hl2)
        have new : ObjOk Ω.P Ω.w (upd H s.heap.objs.size (.tup vs)) (s.heap.push ({ cls := .type "tuple", data := .seq us.toArray } : Obj)) s.heap.objs.size (.tup vs) := ⟨hzv, us, r, ⟨_, Heap.get?_push_size _ rfl, rfl, _, rfl⟩⟩
        have un := StX.un_laid (fs := frs outer) (s := s) (o := ({ cls := .type "tuple", data := .seq us.toArray } : Obj)) (u := .tup vs) hn
        exact h _ _ [V.ref s.heap.objs.size] [Value.ref s.heap.objs.size] (StX.env0_laid e0 new) un rfl (fun e s' => StX.cxUp outer s H _ _ E e s' un (fun b o q => Heap.get?_push_of_some _ q) rfl) (.cons rfl .nil) rfl ⟨_, hn, rfl, rfl⟩
      · subst ex eH
        have g := good_def (E := E) (outer := outer) (H := upd H p (.tup vs)) D.S hl hr' hg
        refine ⟨_, psSs fx tl ra F.body ⟨sc, lm⟩ D.S.kind D.wf _ (fun cls d _ H => E cls d H) g ⟨fun _ _ => .inl rfl, hr'.mono (by omega)⟩ (takes_of rfl rfl rfl rfl), ?_⟩
        cases eo : evSs (run fns tf gd k) tf gd (F.np, F.ns) F.body (.val (.tup ds) :: List.replicate (F.ns - 1) .un) with
        | none => rw [eo] at er; cases er
        | some o =>
          rw [eo] at er
          have hnp : F.np = 1 := D.np.symm
          have es : L2.start N [V.ref p] = st0 [V.ref p] (F.ns - 1) := by
            unfold L2.start st0
            rw [D.ns] <;> rfl
          rw [es]
          have hle : 1 ≤ F.ns := by
            have := D.S.pre
            have h2 := congrArg List.length this
            rw [List.length_take, D.ns] at h2
            simp only [List.length_cons, List.length_nil] at h2
            omega
          have hlen : (st0 [V.ref p] (F.ns - 1)).length = F.ns := by
            unfold st0
            rw [List.length_append, List.length_map, List.length_replicate]
            simp only [List.length_cons, List.length_nil]
            omega
          have Rl := R0.laidG (o := .tup vs) hp (fun ps z => by cases z)
          have R1 : Rel Ω.K Ω.T [.val (.tup ds)] ([V.ref p].map some) (upd G p (.tup vs)) (upd H p (.tup vs)) := by
            refine ⟨rfl, Rl.sub, Rl.ntb, Rl.tab, fun i d h => ?_, fun i xs h => ?_, fun i j b ⟨⟨xs, h⟩, _⟩ _ => ?_⟩
            · cases i with
              | zero =>
                simp at h
                subst h
                exact ⟨_, rfl, .tup (.inl (.inl upd_same)) (dn.mono (same_new2 (R0.gfree hp)))⟩
              | succ i => simp at h
            · cases i with
              | zero => rcases h with h | h <;> simp at h
              | succ i => rcases h with h | h <;> simp at h
            · cases i with
              | zero => rcases h with h | h <;> simp at h
              | succ i => rcases h with h | h <;> simp at h
          have z := ssSs ok F.body (fun cls d _ H => E cls d H) _ _ eo (st0 [V.ref p] (F.ns - 1)) _ _ { nx := fun _ H' => Q .non H', rt := Q } hlen (fr0_rel R1)
          have hn' : (F.np, F.ns).1 = 1 := hnp
          rw [hn'] at z
          exact z (post_star R0 hp ev er post)
    · cases er
  · cases er
end
end Mn

-- Cl0
set_option Elab.async false
set_option linter.all false
set_option maxRecDepth 100000
set_option maxHeartbeats 1000000
set_option autoImplicit false
namespace Mn
open PySem PySem.Spec L2 PyProof.Rows NdefX

/-! ## __init__ that says super().__init__(e): statements in a frame whose own code is known -/
structure PAt (X : Cx) (b : List Stmt) (st : Stmt) (t : TS) : Prop where
  run : ∀ (pins : List (Addr × Obj)) (s : Shared) (σ : L2.St) (H : Hp) (D : Ends), Inv X pins σ H s → t D σ H → _root_.PySem.wpAt (model X.prog X.w) X.A (.func b X.env) (exec st X.env) (SP X pins D) X.xe s
structure PAts (X : Cx) (b st : List Stmt) (t : TS) : Prop where
  run : ∀ (pins : List (Addr × Obj)) (s : Shared) (σ : L2.St) (H : Hp) (D : Ends), Inv X pins σ H s → t D σ H → _root_.PySem.wpAt (model X.prog X.w) X.A (.func b X.env) (execs st X.env) (SP X pins D) X.xe s
section
variable {X : Cx} {b : List Stmt} {st : Stmt} {l l1 l2 : List Stmt} {t t1 t2 : TS}
theorem PAts.of (h : PSs X l t) : PAts X b l t := ⟨fun pins s σ H D I q => wpAt_of_wpAny (h.run pins s σ H D I q)⟩
theorem wp_app {M : Model} {Γ : PySem.Ctx} {env : Env} {l2 : List Stmt} {Q : Flow → Pos → Shared → Prop} {E : Value → Pos → Shared → Prop} : ∀ (l1 : List Stmt) (p : Pos) (s : Shared),
    Sem.wp M Γ (execs l1 env) (fun f p' s' => match f with | .next => Sem.wp M Γ (execs l2 env) Q E p' s' | f => Q f p' s') E p s → Sem.wp M Γ (execs (l1 ++ l2) env) Q E p s
  | [], p, s, h => by
    rw [execs_nil, Sem.wp_pure'] at h
    exact h
  | st :: l1, p, s, h => by
    rw [execs_cons, Sem.wp_bind'] at h
    rw [List.cons_append, execs_cons, Sem.wp_bind']
    refine Sem.wp_mono M Γ _ (fun f p' s' h' => ?_) (fun _ _ _ h' => h') _ _ h
    cases f <;> first | exact wp_app l1 p' s' h' | exact h'
theorem pats_app (h1 : PSs X l1 t1) (h2 : PAts X b l2 t2) : PAts X b (l1 ++ l2) (tSeq t1 t2) := by
  refine ⟨fun pins s σ H D I h => fun Γ p hc hΓ => ?_⟩
  refine wp_app l1 p s (Sem.wp_mono _ Γ _ (fun f p' s' h' => ?_) (fun _ _ _ h' => h') _ _ (h1.run pins s σ H { D with nx := t2 D } I h Γ p hΓ))
  cases f with
  | next =>
    obtain ⟨σ', H', I', q⟩ := h'
    exact h2.run pins s' σ' H' D I' q Γ p' hc hΓ
  | brk => exact h'
  | cont => exact h'
  | ret u => exact h'
theorem pats_cons (h1 : PAt X b st t1) (h2 : PAts X b l t2) : PAts X b (st :: l) (tSeq t1 t2) := by
  refine ⟨fun pins s σ H D I h => ?_⟩
  refine ks_wpAt_execs_cons (ks_wpAt_mono (h1.run pins s σ H { D with nx := t2 D } I h) (fun f s1 q => ?_) fun _ _ z => z)
  cases f with
  | next =>
    obtain ⟨σ', H', I', q⟩ := q
    exact h2.run pins s1 σ' H' D I' q
  | brk => exact q
  | cont => exact q
  | ret u => exact q
end

/-! ### super().__init__(e) -/
abbrev supSt (p0 p1 p2 p3 p4 : Pos) (e : Expr) : Stmt := .Expr (.Call (.Attribute (.Call (.Name "super" p0) [] [] p1) "__init__" p2) [e] [] p3) p4
/-- what stands written of the frame's function f, its cell, its class D and the __init__ f2 above it, for instances of C -/
structure SupOk (P : Program) (K : PySem.W.Frag) (mg : Str → Option Value) (f cda cc D C f2 : Addr) (slf : Str) : Prop where
  fn : ∃ oc od osl fd ar, K.lookup f = some ⟨oc, od, .func fd, osl⟩ ∧ (fd.params.posonlyargs ++ fd.params.args).head? = some ar ∧ ar.arg = slf
  code : ∃ ccl cdd vs ccs file tf, K.lookup cda = some ⟨ccl, cdd, .fields vs, ccs⟩ ∧ vs[2]? = some (.str file tf) ∧ ((P.main.file : Str) == file) = true
  cell : ∃ cl cld csl, K.lookup cc = some ⟨cl, cld, .cell (some (.ref D)), csl⟩
  cls : ∃ cd, PySem.W.clsIn K D = some cd
  sub : PySem.W.mroIn K C (.ref D) = some true
  sup : mg "super" = none
  top : (P.main.scope.names.lookup ("super" : Str)).isSome = false
  ini : PySem.W.ks_superIn K C D "__init__" = some (some (.ref f2))
  ifn : PySem.W.fnIn K f2 = true
  isf : ∃ of, K.lookup f2 = some of ∧ of.cls = .type "function"
  any : PySem.W.nsIn K PySem.cStatics "thirdparty.any" = some none
/-- the frame -/
structure SupFr (X : Cx) (f cda cc : Addr) (slf : Str) : Prop where
  fu : X.env.func = some f
  co : X.env.code = .ref cda
  ks : X.env.kindOf "super" = some .globalImplicit
  kc : X.env.kindOf "__class__" = some .free
  ka : X.env.kindOf slf = some .local
  ce : X.env.cells.lookup ("__class__" : Str) = some cc
  n0 : X.N[0]? = some slf
/-- a def f2 that sets one field of its first argument -/
def SetOk (P : Program) (w : World) (K : PySem.W.Frag) (mg : Str → Option Value) (base : Heap) (k : Nat) (f2 C : Addr) (fld : Str) : Prop :=
  ∀ (A : Around) (outer : List Env) (s : Shared) (H : Hp) (a dx : Addr) (fs : List (Str × V)) (u : Value) (v : V) (Q : VK) (E : XK), Room k A → Env0 P w K mg base A outer s H → H a = some (.ins C dx fs) → fs.length < 1000 → RelV v u → Q .non (upd H a (.ins C dx (putF fld v fs))) →
    codeAny (model P w) A (.call (.ref f2) ⟨[.ref a, u], []⟩) (CR C8.CX0 outer P w H s Q E) s
def tSup (C : Addr) (fld : Str) (te : TE) : TS := fun D σ H => ∃ a dx fs, σ[0]? = some (some (.ref a)) ∧ H a = some (.ins C dx fs) ∧ te σ H fun v0 H1 => ∃ v, [v0] = [v] ∧ H1 a = some (.ins C dx fs) ∧ fs.length < 1000 ∧ D.nx σ (upd H1 a (.ins C dx (putF fld v fs)))
section
variable {X : Cx} {b : List Stmt} {f cda cc D C f2 : Addr} {slf fld : Str} {e : Expr} {te : TE} {k : Nat} {p0 p1 p2 p3 p4 : Pos}
theorem sup_eval {env : Env} {o : Expr} {name : Str} (hst : starEach [e] env = [(false, eval e env)]) (hq : (p2.endLine == p3.line) = true) : eval (.Call (.Attribute o name p2) [e] [] p3) env = (do
      let ov ← attributeBase o name env (eval o env)
      standAt p2.atName
      let (f, first) ← holding [ov] (getMethod ov name (do return (← importBound o env).getD true))
      callWith p3 f first (backTo p3 (starEach [e] env)) []) := by
  show (do
    let ov ← attributeBase o name env (eval o env)
    standAt p2.atName
    methodCall o name p2 p3 env ov 1 (backTo p3 (starEach [e] env)) []) = _
  have hf : methodCallForm 1 (backTo p3 (starEach [e] env)) [] = true := by rw [hst]; rfl
  unfold methodCall calleeOf methodCallPos
  simp only [hf, hq, if_true, Bool.not_true, Bool.false_or, pure_bind]
theorem pat_sup (S : SupOk X.prog X.K X.mg f cda cc D C f2 slf) (R : SupFr X f cda cc slf) (so : SetOk X.prog X.w X.K X.mg X.base k f2 C fld) (hr : Room k X.A) (he : PE X e te) (hst : starEach [e] X.env = [(false, eval e X.env)]) (hq : (p2.endLine == p3.line) = true) : PAt X b (supSt p0 p1 p2 p3 p4 e) (tSup C fld te) := by
  refine ⟨fun pins s σ H Dn I ⟨a, dx, fs, hσ, ha, h⟩ => ?_⟩
  obtain ⟨oc, od, osl, fd, ar, lf, hp, rfl⟩ := S.fn
  obtain ⟨ccl, cdd, vs, ccs, file, tf, lc, hvs, hfile⟩ := S.code
  obtain ⟨cl, cld, csl, lcc⟩ := S.cell
  obtain ⟨cdD, hD⟩ := S.cls
  have KX := I.kIn
  obtain ⟨oD, hD1, hD2⟩ : ∃ oD, s.heap.get? D = some oD ∧ oD.data = .cls cdD := by
    unfold PySem.W.clsIn at hD
    split at hD
    · rename_i c d cd' sl ho
      cases hD
      exact ⟨_, KX _ _ ho, rfl⟩
    · cases hD
  obtain ⟨mA, O, r, _, _, _⟩ := ins_get I.hok ha
  obtain ⟨mb, h1, h2⟩ := I.mod.blt
  refine ks_wpAt_Expr_any (ks_wpAt_MethodCall ?_ (sup_eval hst hq)) I.quiet
  refine ks_wpAt_super_base R.ks R.kc rfl R.fu (KX _ _ lf) rfl hp R.co (KX _ _ lc) rfl hvs hfile S.top ?_
  refine PySem.W.ks_loadName_global I.ok.kind R.ks (Calls.loadGlobal_builtin (by rw [I.ok.glob]; exact I.mod.glob.keeps I.bk) S.sup (by rw [I.ok.blt]; exact h1.keeps I.bk) ((h2 "super" (by decide)).trans (by rfl)) ⟨rfl, ?_⟩)
  refine wpAny_loadName_free I.ok.kind R.kc R.ce ⟨_, KX _ _ lcc, rfl⟩ ?_
  obtain ⟨m, hm, hl⟩ := I.loc
  obtain ⟨u0, r0, lk⟩ := hl 0 ar.arg (.ref a) R.n0 hσ (.inl R.ka)
  obtain rfl : u0 = Value.ref a := r0
  have hma : m ar.arg = some (.ref a) := by
    rcases lk with ⟨_, z⟩ | ⟨z, _⟩
    · exact z
    · have z : X.env.kindOf ar.arg = some .cell ∨ X.env.kindOf ar.arg = some .free := z
      rw [R.ka] at z
      rcases z with z | z <;> cases z
  refine wpAny_loadName_local I.ok.kind R.ka hm hma ?_
  refine ks_wpAny_isType_cls hD1 hD2 ⟨rfl, ?_⟩
  refine ks_wpAny_call_super hD1 hD2 O.obj rfl (fun c z => by cases z) (PySem.W.looks_mroIn KX S.sub) fun h' e1 k1 => ?_
  have I1 : Inv X pins σ H { s with heap := h' } := I.kept (t' := s.toks) k1
  have KX1 := I1.kIn
  obtain ⟨mA1, O1, _, _, _, _⟩ := ins_get I1.hok ha
  obtain ⟨odd, hodd, _⟩ := lookIn_ns O1.ns
  have IA : PySem.W.InstAt h' a (PySem.W.instObj C dx) C (some odd) := ⟨O1.obj, rfl, rfl, hodd⟩
  have hini := S.ini
  unfold PySem.W.ks_superIn at hini
  cases hc : PySem.W.clsIn X.K C with
  | none => rw [hc] at hini; cases hini
  | some cd =>
  rw [hc] at hini
  obtain ⟨of, hof, hofc⟩ : ∃ of, h'.get? f2 = some of ∧ of.cls = .type "function" := S.isf.imp fun of z => ⟨KX1 _ _ z.1, z.2⟩
  refine ks_wpAny_getMethod_super e1 (PySem.W.looks_opaque KX1 S.any) (l₀ := cd.mro) (fun A Q E s k q => wpAny_bind ((PySem.W.looks_clsIn KX1 hc) A _ E s k (wpAny_pure q))) rfl KX1 hini hof hofc (PySem.W.ks_ne KX1 IA hc) rfl ?_
  have I2 : Inv X pins σ H { s with heap := h'.push (PySem.W.methodObj (.ref f2) (.ref a)), toks := s.toks + 1 } := I1.kept (t' := s.toks + 1) fun b u q => Heap.get?_push_of_some _ q
  have I3 : Inv X ((h'.objs.size, PySem.W.methodObj (.ref f2) (.ref a)) :: pins) σ H { s with heap := h'.push (PySem.W.methodObj (.ref f2) (.ref a)), toks := s.toks + 1 } := I2.pins_of fun p hp => by
    rcases List.mem_cons.mp hp with rfl | hp
    · exact ⟨Heap.get?_push_at rfl rfl, I1.hok.fresh (Nat.le_refl _), Ne.symm (Nat.ne_of_lt I1.lt), I1.nofs (Nat.le_refl _), fun v z => by cases z⟩
    · exact I2.pin p (List.mem_append_right _ hp)
  refine PySem.W.callWith_of (P := PySem.W.MethP X.K h'.objs.size f2 (.ref a)) (by rw [hst]; rfl) (PySem.W.keeps_M S.ifn) ?_
  have pa := (pa_cons he pa_nil hst).run p3 _ _ σ H (fun vs H1 => ∃ v, vs = [v] ∧ H1 a = some (.ins C dx fs) ∧ fs.length < 1000 ∧ Dn.nx σ (upd H1 a (.ins C dx (putF fld v fs)))) I3 h
  rw [hst] at pa ⊢
  refine PySem.Calls.evalArgs_plain (thn pa fun us s4 ⟨vs, H1, I4, rv, v, ev, ha1, hz, q⟩ => ?_)
  subst ev
  cases rv with
  | cons ru rn =>
  cases rn
  have pin := (I4.pin (h'.objs.size, PySem.W.methodObj (.ref f2) (.ref a)) (List.mem_append_right _ (List.mem_cons_self ..))).1
  refine ⟨⟨pin, I4.kIn⟩, wpAny_call (PySem.W.method_call pin (codeAny_mono (so X.A X.stack s4 H1 a dx fs _ _ (fun r H2 => r = .non ∧ Dn.nx σ H2) (fun _ _ _ => False) hr I4.env0 ha1 hz ru ⟨rfl, q⟩) fun r s' hq' => ?_))⟩
  cases r with
  | error e => exact False.elim hq'
  | ok fl =>
    cases fl with
    | ret u =>
      obtain ⟨v', H', I5, rv, ev, q5⟩ := I4.after hq'
      exact ⟨σ, H', I5.pins_of (fun p hp => I5.pin p (List.mem_append_right _ (List.mem_cons_of_mem _ hp))), q5⟩
    | next => exact False.elim hq'
    | brk => exact False.elim hq'
    | cont => exact False.elim hq'
end
end Mn

-- Cl1
set_option Elab.async false
set_option linter.all false
set_option maxRecDepth 100000
set_option maxHeartbeats 1000000
set_option autoImplicit false
namespace Mn
open PySem PySem.Spec L2 PyProof.Rows NdefX

section
variable {CX : CXT} {P : Program} {w : World} {K : PySem.W.Frag} {mg : Str → Option Value} {base : Heap} {k : Nat} {f : Addr} {F : NF} {dV kV doc pm ct oc : Value} {an od : Option Addr} {osl : Array (Option Value)} {N ps fr : List Str} {ws : List (Option V)}
/-- a def with cells of its own: what stands written -/
theorem run_cell {A : Around} {outer : List Env} {s : Shared} {H : Hp} {args : Args} {Q : VK} {E : XK} {G : List V → Hp → Prop} (lk : K.lookup f = some ⟨oc, od, .func (PySem.W.fnX F.name F.qual F.params F.body F.scope F.cl dV kV doc pm an (.ref F.c) ct), osl⟩) (hcd : PySem.W.codeIn K (.ref F.c) F.qual = true)
    (S : NScope N ps fr F.scope) (hcl : ∀ (s : Shared) (H : Hp), Env0 P w K mg base A outer s H → CellsAt F.cl fr ws s.heap H) (hr : Room (k + 1) A) (e0 : Env0 P w K mg base A outer s H) (hb : StX.Bnd CX P w K mg base (PySem.W.fnX F.name F.qual F.params F.body F.scope F.cl dV kV doc pm an (.ref F.c) ct) args ps A outer s H E G)
    (hbody : ∀ (s2 : Shared) (H2 : Hp) (vs : List V), G vs H2 → Room k (A.deeper (envF F f s2.heap.objs.size)) →
      ∃ t, PAts (ncx CX P w K mg base N F f A outer s2 H2 E) F.body F.body t ∧ t { nx := fun _ H' => Q .non H', rt := Q } (startF N vs ws) H2) : codeAny (model P w) A (.call (.ref f) args) (CR CX outer P w H s Q E) s := by
  have KX : K.In s.heap := e0.mod.kin.keeps fun b o e => (e0.bs b o e).1
  refine codeAny_call_function hr.depth (KX _ _ lk) rfl S.co S.gen rfl (PySem.W.codeRec_of KX hcd) ?_
  refine hb _ _ _ fun s2 H2 vs us e2 un ho hx r hl g => ?_
  have lim : s2.heap.NoLimit := e0.mod.nolimit.keeps fun b o e => (e2.bs b o e).1
  refine (wpAny_newFunctionEnv S.nocell (fun ⟨n, _⟩ hy => S.par n (List.of_mem_zip hy).1) (fun h₁ hns hsb => ⟨lim.fresh _ hsb, ?_⟩) S.kind)
  show codeAny _ _ (.func F.body (envF F f s2.heap.objs.size)) _ _
  refine ks_codeAny_funcAt ?_
  have kp : ∀ b o, s2.heap.get? b = some o → h₁.get? b = some o := fun b o e => hsb.extBut b o (Nat.ne_of_lt (Heap.lt_size e)) (Heap.get?_push_of_some _ e)
  obtain ⟨t, ht, hq⟩ := hbody s2 H2 vs g (hr.deeper _)
  have I : Inv (ncx CX P w K mg base N F f A outer s2 H2 E) [] (startF N vs ws) H2 { s2 with heap := h₁, toks := s2.toks + (ps.zip us).length } := inv_startN S hr.hd e2 hl r (hcl s2 H2 e2) hns kp
  refine ks_wpAt_mono (ht.run [] _ (startF N vs ws) H2 _ I hq) (fun fl s' hs => ?_) fun e s' hs => ?_
  · have fin : ∀ {σ' : L2.St} {H' : Hp} {v' : V} {u' : Value}, Inv (ncx CX P w K mg base N F f A outer s2 H2 E) [] σ' H' s' → RelV v' u' → Q v' H' → CE outer P w H s Q u' s' :=
      fun {σ' H' v' u'} J rv' q => ⟨v', H', J.os.trans ho, J.bare, un.trans J.base, J.hok, rv', q⟩
    cases fl with
    | ret u' =>
      obtain ⟨v', σ', H', J, rv', q⟩ := hs
      exact fin J rv' q
    | next =>
      obtain ⟨σ', H', J, q⟩ := hs
      exact fin (v' := V.non) (u' := Value.none) J rfl q
    | brk =>
      obtain ⟨_, _, _, q⟩ := hs
      exact False.elim q
    | cont =>
      obtain ⟨_, _, _, q⟩ := hs
      exact False.elim q
  · exact wpAny_mono hs (fun _ s'' z => hx e s'' z) fun e' s'' z => hx e' s'' z
/-- by position -/
theorem bnd_of {fd : FuncData} {A : Around} {outer : List Env} {s : Shared} {H : Hp} {E : XK} {args : Args} {us : List Value} {vs : List V} (hb : BindsTo s fd args (ps.zip us)) (e0 : Env0 P w K mg base A outer s H) (r : Vals vs us) (hl : vs.length = ps.length) :
    StX.Bnd CX P w K mg base fd args ps A outer s H E (fun xs H2 => xs = vs ∧ H2 = H) := fun A' Ex Q h =>
  hb _ _ _ _ (h s H vs us e0 Un.refl rfl (fun _ _ z => z) r hl ⟨rfl, rfl⟩)
end

/-! ### an instance is made -/
section
variable {P : Program} {w : World} {K : PySem.W.Frag} {mg : Str → Option Value} {base : Heap} {C f : Addr} {k : Nat}
theorem env0_made {A : Around} {outer : List Env} {s : Shared} {H : Hp} (e0 : Env0 P w K mg base A outer s H) : Env0 P w K mg base A outer { s with heap := (s.heap.push PySem.W.emptyDict).push (PySem.W.instObj C s.heap.objs.size) } (upd (upd H s.heap.objs.size (.own (s.heap.objs.size + 1))) (s.heap.objs.size + 1) (.ins C s.heap.objs.size [])) := by
  have e1 : (s.heap.push PySem.W.emptyDict).get? s.heap.objs.size = some PySem.W.emptyDict := Heap.get?_push_size s.heap rfl
  have e2 : ((s.heap.push PySem.W.emptyDict).push (PySem.W.instObj C s.heap.objs.size)).get? (s.heap.objs.size + 1) = some (PySem.W.instObj C s.heap.objs.size) := by
    have := Heap.get?_push_size (s.heap.push PySem.W.emptyDict) (o := PySem.W.instObj C s.heap.objs.size) rfl
    rwa [Heap.size_push] at this
  have e3 : (s.heap.push PySem.W.emptyDict).Ns s.heap.objs.size (fun _ => none) := ⟨PySem.W.emptyDict, #[], _, e1, rfl, (fun e he => absurd he (by simp)), fun _ => rfl⟩
  have I1 := StX.env0_laid (o := PySem.W.emptyDict) (u := .own (s.heap.objs.size + 1)) e0 ⟨_, e1⟩
  have ne : s.heap.objs.size ≠ s.heap.objs.size + 1 := Nat.ne_of_lt (Nat.lt_succ_self _)
  have sz : (s.heap.push PySem.W.emptyDict).objs.size = s.heap.objs.size + 1 := Heap.size_push _ _
  have z := StX.env0_laid (s := { s with heap := s.heap.push PySem.W.emptyDict }) (o := PySem.W.instObj C s.heap.objs.size) (u := .ins C s.heap.objs.size []) I1 (by
    show ObjOk P w (upd _ (s.heap.push PySem.W.emptyDict).objs.size _) _ (s.heap.push PySem.W.emptyDict).objs.size _
    rw [sz]
    exact ⟨by rw [upd_ne ne, upd_same], Nat.zero_le _, ne, e2, fun _ => none, (Heap.Ns1.of_empty e3).at fun o q => Heap.get?_push_of_some _ q, fun _ => True.intro, fun y hy => absurd rfl hy⟩)
  have z2 : Env0 P w K mg base A outer { s with heap := (s.heap.push PySem.W.emptyDict).push (PySem.W.instObj C s.heap.objs.size) } (upd (upd H s.heap.objs.size (.own (s.heap.objs.size + 1))) (s.heap.push PySem.W.emptyDict).objs.size (.ins C s.heap.objs.size [])) := z
  rw [sz] at z2
  exact z2
abbrev madeS (C : Addr) (s : Shared) : Shared := { s with heap := (s.heap.push PySem.W.emptyDict).push (PySem.W.instObj C s.heap.objs.size) }
abbrev madeH (C : Addr) (s : Shared) (H : Hp) : Hp := upd (upd H s.heap.objs.size (.own (s.heap.objs.size + 1))) (s.heap.objs.size + 1) (.ins C s.heap.objs.size [])
theorem un_made {A : Around} {outer : List Env} {s : Shared} {H : Hp} (e0 : Env0 P w K mg base A outer s H) : Un (frs outer) [] H (madeH C s H) s.heap (madeS C s).heap := by
  have n1 : H s.heap.objs.size = none := e0.hok.fresh (Nat.le_refl _)
  have n2 : H (s.heap.objs.size + 1) = none := e0.hok.fresh (Nat.le_succ _)
  have u1 := StX.un_laid (fs := frs outer) (s := s) (o := PySem.W.emptyDict) (u := .own (s.heap.objs.size + 1)) n1
  have sz : (s.heap.push PySem.W.emptyDict).objs.size = s.heap.objs.size + 1 := Heap.size_push _ _
  have u2 := StX.un_laid (fs := frs outer) (s := { s with heap := s.heap.push PySem.W.emptyDict }) (H := upd H s.heap.objs.size (.own (s.heap.objs.size + 1))) (o := PySem.W.instObj C s.heap.objs.size) (u := .ins C s.heap.objs.size []) (by
    show upd H s.heap.objs.size _ (s.heap.push PySem.W.emptyDict).objs.size = none
    rw [sz, upd_ne (Ne.symm (Nat.ne_of_lt (Nat.lt_succ_self _)))]
    exact n2)
  have u2' : Un (frs outer) [] (upd H s.heap.objs.size (.own (s.heap.objs.size + 1))) (upd (upd H s.heap.objs.size (.own (s.heap.objs.size + 1))) (s.heap.push PySem.W.emptyDict).objs.size (.ins C s.heap.objs.size [])) (s.heap.push PySem.W.emptyDict) ((s.heap.push PySem.W.emptyDict).push (PySem.W.instObj C s.heap.objs.size)) := u2
  rw [sz] at u2'
  exact u1.trans u2'
/-- C(..) by its __init__ -/
theorem run_new {A : Around} {outer : List Env} {s : Shared} {H : Hp} {us : List Value} {Q : VK} {E : XK} (M : Mk K C f) (e0 : Env0 P w K mg base A outer s H)
    (h : codeAny (model P w) (A.under (.builtin "type.__call__" ⟨.ref C :: us, []⟩)) (.call (.ref f) ⟨.ref (s.heap.objs.size + 1) :: us, []⟩) (CR (L2.CX P w) outer P w (madeH C s H) (madeS C s) (fun v H3 => v = .non ∧ Q (.ref (s.heap.objs.size + 1)) H3) E) (madeS C s)) :
    codeAny (model P w) A (.call (.ref C) ⟨us, []⟩) (CR (L2.CX P w) outer P w H s Q E) s := by
  have KX : K.In s.heap := e0.mod.kin.keeps fun b o e => (e0.bs b o e).1
  have un := un_made (C := C) e0
  refine make_map (f := f) KX M.makes M.init (beq_iff_eq.mp M.fn) (codeAny_mono h fun r s' hq => ?_)
  cases r with
  | error e => exact StX.cxUp outer s H (madeS C s) (madeH C s H) E e s' un (fun b o q => Heap.get?_push_of_some _ (Heap.get?_push_of_some _ q)) rfl hq
  | ok fl =>
    cases fl with
    | ret u =>
      obtain ⟨v, H', os, bare, u2, hok, rv, ev, q3⟩ := hq
      subst ev
      exact ⟨rv, ⟨V.ref (s.heap.objs.size + 1), H', os, bare, un.trans u2, hok, rfl, q3⟩⟩
    | next => exact False.elim hq
    | brk => exact False.elim hq
    | cont => exact False.elim hq
/-- a def that sets one field -/
theorem setOk_of {name qual slf y fld : Str} {params : Arguments} {scope : Scope} {dV kV doc pm cdv ct oc : Value} {an od : Option Addr} {osl : Array (Option Value)} {q1 q2 q3 q4 : Pos}
    (lk : K.lookup f = some ⟨oc, od, .func (PySem.W.fnOf name qual params [.Assign [.Attribute (.Name slf q1) fld q2] (.Name y q3) q4] scope dV kV doc pm an cdv ct), osl⟩) (hcd : PySem.W.codeIn K cdv qual = true) (S : FnScope [slf, y] [slf, y] scope) (cl : Cls K C) (na : NoAttr K C fld)
    (hb : ∀ (s : Shared) (us : List Value), us.length = 2 → BindsTo s (PySem.W.fnOf name qual params [.Assign [.Attribute (.Name slf q1) fld q2] (.Name y q3) q4] scope dV kV doc pm an cdv ct) ⟨us, []⟩ ([slf, y].zip us))
    (h1 : (slf == ("__debug__" : Str)) = false) (h2 : (slf == ("__classdict__" : Str)) = false) (h3 : (y == ("__debug__" : Str)) = false) (h4 : (y == ("__classdict__" : Str)) = false) : SetOk P w K mg base (k + 1) f C fld := by
  intro A outer s H a dx fs u v Q E hr e0 ha hz rv q
  refine LamX.run_ofS (k := k) (N := [slf, y]) (ps := [slf, y]) (us := [.ref a, u]) (vs := [.ref a, v]) lk hcd S hr e0 (hb s _ rfl) (.cons rfl (.cons rv .nil)) rfl fun hr' => ?_
  have v1 : Vis scope slf := (S.par slf (by simp)).elim .inl fun z => .inr (.inl z)
  have v2 : Vis scope y := (S.par y (by simp)).elim .inl fun z => .inr (.inl z)
  refine ⟨_, pss_cons (ps_fld (pe_var (i := 0) (x := slf) rfl v1 h1 h2) (pe_var (i := 1) (x := y) rfl v2 h3 h4) rfl) pss_nil, ?_⟩
  exact ⟨v, rfl, .ref a, rfl, a, C, dx, fs, rfl, ha, cl, na, hz, q⟩
end
end Mn

-- Cl2
set_option Elab.async false
set_option linter.all false
set_option maxRecDepth 100000
set_option maxHeartbeats 1000000
set_option autoImplicit false
namespace Mn
open PySem PySem.Spec L2

/-! ## an instance that is being made: slots, heaps -/
section
variable {K : PySem.W.Frag} {T : List (Addr × Str)} {np : Nat} {δ δ' as as' : List Sl} {σ σ' : L2.St} {G H G0 H0 G' H' : Hp} {x dx C : Addr} {o o' : HO} {u : Option V}
theorem ow_un {i : Nat} {xs : List D} (h : Ow (Sl.un :: as)[i]? xs) : ∃ j, i = j + 1 ∧ Ow as[j]? xs := by
  cases i with
  | zero => rcases h with h | h <;> simp at h
  | succ j => exact ⟨j, rfl, by simpa using h⟩
theorem own_un {i : Nat} {a : Addr} (h : OwnAt (.un :: as) (u :: σ) i a) : ∃ j, i = j + 1 ∧ OwnAt as σ j a := by
  obtain ⟨⟨xs, z⟩, e⟩ := h
  obtain ⟨j, rfl, z⟩ := ow_un z
  exact ⟨j, rfl, ⟨xs, z⟩, by simpa using e⟩
theorem own_un' {j : Nat} {a : Addr} (h : OwnAt as σ j a) : OwnAt (.un :: as) (u :: σ) (j + 1) a := by
  obtain ⟨⟨xs, z⟩, e⟩ := h
  exact ⟨⟨xs, by simpa using z⟩, by simpa using e⟩
theorem Own_un {a : Addr} : Own (.un :: as) (u :: σ) a ↔ Own as σ a := by
  constructor
  · rintro ⟨i, h⟩
    obtain ⟨j, _, z⟩ := own_un h
    exact ⟨j, z⟩
  · rintro ⟨j, h⟩
    exact ⟨j + 1, own_un' h⟩
theorem Rel.un1 (R : Rel K T as σ G H) : Rel K T (.un :: as) (u :: σ) G H := by
  refine ⟨by rw [List.length_cons, List.length_cons, R.len], R.sub, R.ntb, R.tab, fun i d h => ?_, fun i xs h => ?_, fun i j a o1 o2 => ?_⟩
  · cases i with
    | zero => simp at h
    | succ i => simpa using R.val i d (by simpa using h)
  · obtain ⟨j, rfl, z⟩ := ow_un h
    simpa using R.own j xs z
  · obtain ⟨i', rfl, z1⟩ := own_un o1
    obtain ⟨j', rfl, z2⟩ := own_un o2
    rw [R.sep i' j' a z1 z2]
theorem Rel.un1' (R : Rel K T (.un :: as) (u :: σ) G H) : Rel K T as σ G H := by
  refine ⟨by have := R.len; simpa using this, R.sub, R.ntb, R.tab, fun i d h => ?_, fun i xs h => ?_, fun i j a o1 o2 => ?_⟩
  · simpa using R.val (i + 1) d (by simpa using h)
  · have := R.own (i + 1) xs (by simpa using h)
    simpa using this
  · have := R.sep (i + 1) (j + 1) a (own_un' o1) (own_un' o2)
    omega
theorem GoE.un1' (g : GoE (.un :: as) (.un :: as') (u :: σ) G H G' H') : GoE as as' σ G H G' H' := by
  refine ⟨⟨g.go.ex, fun b o q n t => g.go.keep b o q (fun z => n (Own_un.mp z)) t, g.go.live, fun b o q => (g.go.new b o q).imp id (Or.imp id Own_un.mp), fun b q => (g.go.grow b (Own_un.mpr q)).imp Own_un.mp id⟩, fun i xs h => ?_, fun i xs h => ?_, fun i a h => ?_⟩
  · obtain ⟨ys, z⟩ := g.less (i + 1) xs (by simpa using h)
    exact ⟨ys, by simpa using z⟩
  · simpa using g.lock (i + 1) xs (by simpa using h)
  · rcases g.fate (i + 1) a (own_un' h) with ⟨xs, z⟩ | z
    · exact .inl ⟨xs, by simpa using z⟩
    · exact .inr z
/-- further things stay that were not there -/
theorem GoE.addG (g : GoE δ δ' σ G H G0 H0) (e : Same G0 G') (n : ∀ b o, G' b = some o → G0 b = some o ∨ H b = none) : GoE δ δ' σ G H G' H0 :=
  ⟨⟨g.go.ex.trans e, g.go.keep, g.go.live, fun b o q => (n b o q).elim (g.go.new b o) fun z => .inr (.inl z), g.go.grow⟩, g.less, g.lock, fun i a h => (g.fate i a h).imp id fun ⟨o, z⟩ => ⟨o, e _ _ z⟩⟩
/-- the instance is written -/
theorem Rel.putI {dx' : Addr} {fs : List (Str × V)} (R : Rel K T δ σ G H) (hx : H x = some (.ins C dx' fs)) (gx : G x = none) : Rel K T δ σ G (upd H x o) := by
  have nl : ∀ b o', H b = some o' → b ≠ x → upd H x o b = some o' := fun b o' q z => by
    rw [upd_ne z]
    exact q
  refine ⟨R.len, fun b o' q => nl b o' (R.sub b o' q) (fun z => by rw [z, gx] at q; cases q), R.ntb, fun p hp => ?_, R.val, fun j zs q => ?_, R.sep⟩
  · obtain ⟨ps, t1, t2, t3⟩ := R.tab p hp
    have np : p.1 ≠ x := fun z => by
      rw [z, hx] at t1
      cases t1
    refine ⟨ps, nl _ _ t1 np, t2, fun pos cv q => ?_⟩
    obtain ⟨c, q1, q2⟩ := t3 pos cv q
    refine ⟨c, q1, nl _ _ q2 fun z => ?_⟩
    rw [z, hx] at q2
    cases q2
  · obtain ⟨a, vs, e1, e2, e3, e4⟩ := R.own j zs q
    refine ⟨a, vs, e1, nl _ _ e2 fun z => ?_, e3, e4⟩
    rw [z, hx] at e2
    cases e2
theorem GoS.putI (g : GoS np δ δ' σ σ' G H G' H') (hx : H x = none) : GoS np δ δ' σ σ' G H G' (upd H' x o) := by
  refine ⟨⟨g.go.ex, fun b o' q n t => ?_, fun b o' q => ?_, g.go.new, g.go.grow⟩, g.len, g.lock, g.par, g.fate⟩
  · rw [upd_ne fun z => by rw [z, hx] at q; cases q]
    exact g.go.keep b o' q n t
  · rw [upd_ne fun z => by rw [z, hx] at q; cases q]
    exact g.go.live b o' q
theorem Rel.no_own (R : Rel K T δ σ G H) (hx : H x = some o) (no : ∀ vs, o ≠ .lst vs) : ¬ Own δ σ x := by
  rintro ⟨i, ⟨xs, z⟩, e⟩
  obtain ⟨a, vs, e1, e2, _⟩ := R.own i xs z
  rw [e] at e1
  cases e1
  rw [hx] at e2
  exact no vs (Option.some.inj e2)
end

/-- the instance x of C, its dict dx, in a frame that began at (δ0, σ0, G0, H0), with fields vfs that are fs -/
structure CSt (K : PySem.W.Frag) (T : List (Addr × Str)) (np n : Nat) (δ0 : List Sl) (σ0 : L2.St) (G0 H0 : Hp) (x dx C : Addr) (δ : List Sl) (σ : L2.St) (G H : Hp) (vfs : List (Str × V)) (fs : List (Str × D)) : Prop where
  R : Rel K T δ σ G H
  g : GoS np δ0 δ σ0 σ G0 H0 G H
  len : σ.length = n
  s0 : σ[0]? = some (some (.ref x))
  hx : H x = some (.ins C dx vfs)
  hd : H dx = some (.own x)
  gx : G x = none
  gd : G dx = none
  dn : DenF K G vfs fs
  x0 : H0 x = none
  d0 : H0 dx = none
section
variable {K : PySem.W.Frag} {T : List (Addr × Str)} {np n : Nat} {δ0 δ δ1 : List Sl} {σ0 σ σ1 : L2.St} {G0 H0 G H G1 H1 : Hp} {x dx C : Addr} {vfs : List (Str × V)} {fs : List (Str × D)}
theorem CSt.sub (st : CSt K T np n δ0 σ0 G0 H0 x dx C δ σ G H vfs fs) (hp : 0 < np) (R1 : Rel K T δ1 σ1 G1 H1) (g1 : GoS np δ δ1 σ σ1 G H G1 H1) : CSt K T np n δ0 σ0 G0 H0 x dx C δ1 σ1 G1 H1 vfs fs := by
  have nx := st.R.no_own st.hx (fun vs z => by cases z)
  have nd := st.R.no_own st.hd (fun vs z => by cases z)
  have free : ∀ b o, H b = some o → G b = none → ¬ Own δ σ b → G1 b = none := fun b o q z n => by
    cases e : G1 b with
    | none => rfl
    | some o' =>
      rcases g1.go.new b o' e with y | y | y
      · rw [z] at y; cases y
      · rw [q] at y; cases y
      · exact absurd y n
  exact ⟨R1, st.g.trans g1, g1.len.trans st.len, (g1.par 0 hp).trans st.s0, g1.go.keep _ _ st.hx nx (fun ps z => by cases z), g1.go.keep _ _ st.hd nd (fun ps z => by cases z), free _ _ st.hx st.gx nx, free _ _ st.hd st.gd nd, st.dn.mono g1.go.ex, st.x0, st.d0⟩
theorem DenF.snoc {f : Str} {v : V} {d : D} : ∀ {vfs : List (Str × V)} {fs : List (Str × D)}, DenF K G vfs fs → Den K G v d → DenF K G (vfs ++ [(f, v)]) (fs ++ [(f, d)])
  | _, _, .nil, h => .cons h .nil
  | _, _, .cons h t, q => .cons h (t.snoc q)
theorem DenF.keys : ∀ {vfs : List (Str × V)} {fs : List (Str × D)}, DenF K G vfs fs → vfs.map (·.1) = fs.map (·.1)
  | _, _, .nil => rfl
  | _, _, .cons _ t => by simp [t.keys]
theorem putF_new {f : Str} {v : V} : ∀ {vfs : List (Str × V)}, f ∉ vfs.map (·.1) → putF f v vfs = vfs ++ [(f, v)]
  | [], _ => rfl
  | (g, y) :: r, h => by
    have h1 : g ≠ f := fun z => h (by simp [z])
    have h2 : f ∉ r.map (·.1) := fun z => h (by simp at z ⊢; exact .inr z)
    show (if g = f then (g, v) :: r else (g, y) :: putF f v r) = _
    rw [if_neg h1, putF_new h2] <;> rfl
theorem CSt.set {f : Str} {v : V} {d : D} (st : CSt K T np n δ0 σ0 G0 H0 x dx C δ σ G H vfs fs) (h : Den K G v d) (hf : f ∉ fs.map (·.1)) (ne : dx ≠ x) : CSt K T np n δ0 σ0 G0 H0 x dx C δ σ G (upd H x (.ins C dx (putF f v vfs))) (vfs ++ [(f, v)]) (fs ++ [(f, d)]) := by
  rw [putF_new (by rw [st.dn.keys]; exact hf)]
  exact ⟨st.R.putI st.hx st.gx, st.g.putI st.x0, st.len, st.s0, upd_same, by rw [upd_ne ne]; exact st.hd, st.gx, st.gd, st.dn.snoc h, st.x0, st.d0⟩
/-- a wider heap -/
theorem Rel.ext {δ : List Sl} {σ : L2.St} {H' : Hp} (R : Rel K T δ σ G H) (e : Same H H') : Rel K T δ σ G H' :=
  ⟨R.len, R.sub.trans e, R.ntb, R.tab.ext e, R.val, fun i xs h => by
    obtain ⟨a, vs, h1, h2, h3, h4⟩ := R.own i xs h
    exact ⟨a, vs, h1, e _ _ h2, h3, h4⟩, R.sep⟩
theorem GoS.ext {δ : List Sl} {σ : L2.St} {H' : Hp} (e : Same H H') : GoS np δ δ σ σ G H G H' :=
  ⟨⟨Same.refl G, fun b o q _ _ => e _ _ q, fun b o q => ⟨o, e _ _ q⟩, fun _ _ h => .inl h, fun _ h => .inl h⟩, rfl, fun _ _ h => ⟨h, rfl⟩, fun _ _ => rfl, fun _ _ _ h => .inl h.1⟩
theorem same_addI (gx : G x = none) (gd : G dx = none) (ne : dx ≠ x) : Same G (upd (upd G dx (.own x)) x (.ins C dx vfs)) :=
  (same_new2 gd).trans (same_new2 (by rw [upd_ne (Ne.symm ne)]; exact gx))
theorem new_addI {b : Addr} {o : HO} (q : upd (upd G dx (.own x)) x (.ins C dx vfs) b = some o) : G b = some o ∨ b = x ∨ b = dx := by
  by_cases h1 : b = x
  · exact .inr (.inl h1)
  · rw [upd_ne h1] at q
    by_cases h2 : b = dx
    · exact .inr (.inr h2)
    · rw [upd_ne h2] at q
      exact .inl q
/-- the instance is whole: it stays -/
theorem Rel.addI {δ : List Sl} {σ : L2.St} (R : Rel K T δ σ G H) (hx : H x = some (.ins C dx vfs)) (hd : H dx = some (.own x)) (gx : G x = none) (gd : G dx = none) : Rel K T δ σ (upd (upd G dx (.own x)) x (.ins C dx vfs)) H := by
  have sm := same_addI (vfs := vfs) (C := C) gx gd (fun z => by rw [z, hx] at hd; cases hd)
  have key : ∀ b o, upd (upd G dx (.own x)) x (.ins C dx vfs) b = some o → (b = x ∧ o = .ins C dx vfs) ∨ (b = dx ∧ o = .own x) ∨ G b = some o := fun b o q => by
    by_cases h1 : b = x
    · rw [h1, upd_same] at q
      exact .inl ⟨h1, (Option.some.inj q).symm⟩
    · rw [upd_ne h1] at q
      by_cases h2 : b = dx
      · rw [h2, upd_same] at q
        exact .inr (.inl ⟨h2, (Option.some.inj q).symm⟩)
      · rw [upd_ne h2] at q
        exact .inr (.inr q)
  refine ⟨R.len, fun b o q => ?_, fun b ps q => ?_, R.tab, fun i d h => ?_, fun i xs h => ?_, R.sep⟩
  · rcases key b o q with ⟨rfl, rfl⟩ | ⟨rfl, rfl⟩ | z
    · exact hx
    · exact hd
    · exact R.sub _ _ z
  · rcases key b _ q with ⟨_, z⟩ | ⟨_, z⟩ | z
    · cases z
    · cases z
    · exact R.ntb _ _ z
  · obtain ⟨v, e1, e2⟩ := R.val i d h
    exact ⟨v, e1, e2.mono sm⟩
  · obtain ⟨a, vs, h1, h2, h3, h4⟩ := R.own i xs h
    refine ⟨a, vs, h1, h2, ?_, h4.mono sm⟩
    have n1 : a ≠ x := fun z => by rw [z, hx] at h2; cases h2
    have n2 : a ≠ dx := fun z => by rw [z, hd] at h2; cases h2
    rw [upd_ne n1, upd_ne n2]
    exact h3
end
end Mn

-- Cl3
set_option Elab.async false
set_option linter.all false
set_option maxRecDepth 100000
set_option maxHeartbeats 1000000
set_option autoImplicit false
namespace Mn
open PySem PySem.Spec L2

/-! ## a class's __init__: its text, its reading -/
/-- the places of super().__init__(e) and of the fields' statements -/
structure ClP where
  sup : Pos × Pos × Pos × Pos × Pos
  fld : List (Pos × Pos × Pos)
abbrev pos0 : Pos := ⟨0, 0, 0, 0⟩
section
variable (Γ : Gam) (N : List Str)
def upFl : List (Str × E) → List (Pos × Pos × Pos) → List Stmt
  | [], _ => []
  | (f, e) :: l, [] => .Assign [.Attribute (.Name (gname N 0) pos0) f pos0] (up Γ N e) pos0 :: upFl l []
  | (f, e) :: l, (q1, q2, q4) :: ps => .Assign [.Attribute (.Name (gname N 0) q1) f q2] (up Γ N e) q4 :: upFl l ps
def upSup (p : Pos × Pos × Pos × Pos × Pos) : Option (Str × E) → List Stmt
  | none => []
  | some (_, e) => [supSt p.1 p.2.1 p.2.2.1 p.2.2.2.1 p.2.2.2.2 (up Γ N e)]
def upCl (c : Cl) (P : ClP) : List Stmt := upSs Γ N c.body ++ (upSup Γ N P.sup c.sup ++ upFl Γ N c.flds P.fld)
def wfFl (sc : Sk) : List (Str × E) → Bool
  | [] => true
  | (_, e) :: l => wfE Γ N sc e && wfFl sc l
def wfSup (sc : Sk) : Option (Str × E) → Bool
  | none => true
  | some (_, e) => wfE Γ N sc e
end
section
variable (Ω : Wd) (fsp : Nat → Sp) (tsp : (XK → TE) → TE) (C : Addr) (W : WX)
def rdFl : List (Str × E) → TS
  | [] => tNext
  | (f, e) :: l => tSeq (sFld Ω.K (tVar 0) (rd Ω.P Ω.w Ω.K Ω.Γ Ω.gv fsp tsp e W).1 f) (rdFl l)
def rdSup : Option (Str × E) → TS → TS
  | none, t => t
  | some (f, e), t => tSeq (tSup C f (rd Ω.P Ω.w Ω.K Ω.Γ Ω.gv fsp tsp e W).1) t
end
section
variable {Ω : Wd} {N : List Str} {lv : Nat} {fsp : Nat → Sp} {tsp : (XK → TE) → TE} {X : Cx} {W : WX} {sc : Sk}
theorem swap_attr (e : E) (o : Expr) (f : Str) (p : Pos) (l : Nat) (env : Env) : swapsWith (up Ω.Γ N e) (some (.Attribute o f p)) l env = pure false := by
  cases e <;> (simp only [up]; rfl)
theorem ps_fls (fx : Facts Ω fsp lv) (tl : TellOk Ω N lv tsp) (g : Good Ω N sc lv X) (tk : Takes X W) (h0 : 0 < N.length) (hv : isVis sc.s (gname N 0) = true) : ∀ (l : List (Str × E)) (ps : List (Pos × Pos × Pos)), wfFl Ω.Γ N sc l = true → PSs X (upFl Ω.Γ N l ps) (rdFl Ω fsp tsp W l)
  | [], _, _ => by
    simp only [upFl, rdFl]
    exact pss_nil
  | (f, e) :: l, [], h => by
    simp only [wfFl, Bool.and_eq_true] at h
    simp only [upFl, rdFl]
    obtain ⟨v1, v2, v3⟩ := g.vis hv
    have z := ps_fld (X := X) (f := f) (pos' := pos0) (pos := pos0) (pe_var (pos := pos0) (by rw [g.N]; exact gname_at h0) v1 v2 v3) (peE fx tl e sc h.1 X W g tk).1 (swap_attr e _ _ _ _ _)
    rw [g.K] at z
    exact pss_cons z (ps_fls fx tl g tk h0 hv l [] h.2)
  | (f, e) :: l, (q1, q2, q4) :: ps, h => by
    simp only [wfFl, Bool.and_eq_true] at h
    simp only [upFl, rdFl]
    obtain ⟨v1, v2, v3⟩ := g.vis hv
    have z := ps_fld (X := X) (f := f) (pos' := q2) (pos := q4) (pe_var (pos := q1) (by rw [g.N]; exact gname_at h0) v1 v2 v3) (peE fx tl e sc h.1 X W g tk).1 (swap_attr e _ _ _ _ _)
    rw [g.K] at z
    exact pss_cons z (ps_fls fx tl g tk h0 hv l ps h.2)
/-- what is asked of super().__init__, if it is said -/
def SupA (Ω : Wd) (N : List Str) (X : Cx) (P : ClP) (C : Addr) : Option (Str × E) → Prop
  | none => True
  | some (f, _) => ∃ fi cda cc Dd f2, SupOk X.prog X.K X.mg fi cda cc Dd C f2 (gname N 0) ∧ SupFr X fi cda cc (gname N 0) ∧ SetOk X.prog X.w X.K X.mg X.base 1 f2 C f ∧ (P.sup.2.2.1.endLine == P.sup.2.2.2.1.line) = true
theorem pats_cl {c : Cl} {P : ClP} {C : Addr} {b : List Stmt} (fx : Facts Ω fsp lv) (tl : TellOk Ω N lv tsp) (ra : RaiOk Ω lv) (g : Good Ω N sc lv X) (fn : Frm X) (tk : Takes X W) (h0 : 0 < N.length) (hv : isVis sc.s (gname N 0) = true) (hk : sc.s.kind = .function)
    (wb : wfSs Ω.Γ N sc c.body = true) (ws : wfSup Ω.Γ N sc c.sup = true) (wf : wfFl Ω.Γ N sc c.flds = true) (sa : SupA Ω N X P C c.sup) :
    PAts X b (upCl Ω.Γ N c P) (tSeq (rdSs Ω.P Ω.w Ω.K Ω.Γ Ω.gv Ω.ca fsp tsp c.body W) (rdSup Ω fsp tsp C W c.sup (rdFl Ω fsp tsp W c.flds))) := by
  have zb := psSs fx tl ra c.body sc hk wb X W g fn tk
  have zf : PAts X b (upFl Ω.Γ N c.flds P.fld) (rdFl Ω fsp tsp W c.flds) := .of (ps_fls fx tl g tk h0 hv c.flds P.fld wf)
  unfold upCl
  refine pats_app zb ?_
  cases hs : c.sup with
  | none =>
    simp only [upSup, rdSup, List.nil_append]
    exact zf
  | some fe =>
    obtain ⟨f, e⟩ := fe
    rw [hs] at sa ws
    obtain ⟨fi, cda, cc, Dd, f2, s1, s2, s3, s4⟩ := sa
    simp only [wfSup] at ws
    simp only [upSup, rdSup, List.cons_append, List.nil_append]
    refine pats_cons (pat_sup s1 s2 s3 (g.room.mono (by omega)) (peE fx tl e sc ws X W g tk).1 ?_ s4) zf
    have := star_up (Γ := Ω.Γ) (N := N) e [] X.env
    rw [this] <;> rfl
end

/-! ## what the evaluator says of the fields, the reading asks -/
section
variable {Ω : Wd} {cf : Nat → List Sl → Option CO} {tf : EO → Option EO} {gd : Gd} {fsp : Nat → Sp} {tsp : (XK → TE) → TE} {np n : Nat} {W : WX} {δ0 : List Sl} {σ0 : L2.St} {G0 H0 : Hp} {x dx C : Addr}
def PostFl (Ω : Wd) (np n : Nat) (W : WX) (δ0 : List Sl) (σ0 : L2.St) (G0 H0 : Hp) (x dx C : Addr) (fs : List (Str × D)) (σ : L2.St) (Dn : Ends) : FO → Prop
  | .ok gs δ' => ∀ G' H' vfs, CSt Ω.K Ω.T np n δ0 σ0 G0 H0 x dx C δ' σ G' H' vfs (fs ++ gs) → Dn.nx σ H'
  | .exc c d δ' => ∀ v y G' H', Rel Ω.K Ω.T δ' σ G' H' → GoS np δ0 δ' σ0 σ G0 H0 G' H' → H' y = some (.xd [("value", v)]) → Den Ω.K G' v d → W (.ref (Ω.ca c)) (some y) σ H'
theorem fl_step {te : TE} {r : R} {δ δ1 δ2 : List Sl} {σ : L2.St} {G H : Hp} {vfs : List (Str × V)} {fs : List (Str × D)} {d : D} {Q : VK} (hp : 0 < np) (he : SE Ω te W n δ (.ok r δ1)) (ef : frz δ1 r = some (d, δ2)) (st : CSt Ω.K Ω.T np n δ0 σ0 G0 H0 x dx C δ σ G H vfs fs)
    (hQ : ∀ v G' H', CSt Ω.K Ω.T np n δ0 σ0 G0 H0 x dx C δ2 σ G' H' vfs fs → Den Ω.K G' v d → Q v H') : te σ H Q :=
  he σ G H _ st.len st.R fun v G1 H1 R1 g1 rv => by
    obtain ⟨G3, R3, g3, dn, _⟩ := frz_ok st.R g1 R1 rv ef
    exact hQ v G3 H1 (st.sub hp R3 g3.toS) dn
theorem fl_exc {te : TE} {δ δ1 : List Sl} {σ : L2.St} {G H : Hp} {vfs : List (Str × V)} {fs : List (Str × D)} {c : Nat} {d : D} {Q : VK} {Dn : Ends} {fs' : List (Str × D)} (he : SE Ω te W n δ (.exc c d δ1)) (st : CSt Ω.K Ω.T np n δ0 σ0 G0 H0 x dx C δ σ G H vfs fs)
    (post : PostFl Ω np n W δ0 σ0 G0 H0 x dx C fs' σ Dn (.exc c d δ1)) : te σ H Q :=
  he σ G H _ st.len st.R fun v y G1 H1 R1 g1 hy dn => post v y G1 H1 R1 (st.g.trans g1.toS) hy dn
theorem fl_ok (ok : EvOk Ω cf tf gd fsp tsp n) (hp : 0 < np) (hc : Cls Ω.K C) (ne : dx ≠ x) : ∀ (l : List (Str × E)) (δ : List Sl) (o : FO), evF cf tf gd l δ = some o → ∀ (σ : L2.St) (G H : Hp) (vfs : List (Str × V)) (fs : List (Str × D)) (Dn : Ends),
    CSt Ω.K Ω.T np n δ0 σ0 G0 H0 x dx C δ σ G H vfs fs → (fs.map (·.1) ++ l.map (·.1)).Nodup → fs.length + l.length < 1000 → (∀ p ∈ l, NoAttr Ω.K C p.1) → PostFl Ω np n W δ0 σ0 G0 H0 x dx C fs σ Dn o → rdFl Ω fsp tsp W l Dn σ H
  | [], δ, o, e, σ, G, H, vfs, fs, Dn, st, nd, hz, na, post => by
    simp only [evF] at e
    cases e
    simp only [rdFl]
    exact post G H vfs (by rw [List.append_nil]; exact st)
  | (f, e) :: l, δ, o, ev, σ, G, H, vfs, fs, Dn, st, nd, hz, na, post => by
    simp only [evF] at ev
    simp only [rdFl]
    split at ev
    · rename_i r δ1 ee
      split at ev
      · rename_i d δ2 ef
        have hf : f ∉ fs.map (·.1) := fun z => by
          rw [List.nodup_append] at nd
          exact nd.2.2 f z f (by simp) rfl
        refine fl_step hp (seE ok e W _ _ ee) ef st fun v G1 H1 s1 dn => ?_
        have nv : vfs.length < 1000 := by
          have := congrArg List.length s1.dn.keys
          rw [List.length_map, List.length_map] at this
          simp at hz
          omega
        refine ⟨.ref x, s1.s0, x, C, dx, vfs, rfl, s1.hx, hc, na (f, e) (by simp), nv, ?_⟩
        have s2 := s1.set dn hf ne
        have nd2 : ((fs ++ [(f, d)]).map (·.1) ++ l.map (·.1)).Nodup := by simpa using nd
        have hz2 : (fs ++ [(f, d)]).length + l.length < 1000 := by simp at hz ⊢; omega
        cases el : evF cf tf gd l δ2 with
        | none => rw [el] at ev; cases ev
        | some o2 =>
          rw [el] at ev
          refine fl_ok ok hp hc ne l δ2 o2 el σ G1 _ _ _ Dn s2 nd2 hz2 (fun p hpp => na p (List.mem_cons_of_mem _ hpp)) ?_
          cases o2 with
          | ok gs δ3 =>
            cases ev
            exact fun G' H' vfs' s3 => post G' H' vfs' (by rw [List.append_assoc] at s3; exact s3)
          | exc c dd δ3 =>
            cases ev
            exact post
      · cases ev
    · rename_i c d δ1 ee
      cases ev
      exact fl_exc (seE ok e W _ _ ee) st post
    · cases ev
theorem sup_ok (ok : EvOk Ω cf tf gd fsp tsp n) (hp : 0 < np) (hc : Cls Ω.K C) (ne : dx ≠ x) (sup : Option (Str × E)) (l : List (Str × E)) (δ : List Sl) (o : FO) (ev : evF cf tf gd (sup.toList ++ l) δ = some o) (σ : L2.St) (G H : Hp) (Dn : Ends)
    (st : CSt Ω.K Ω.T np n δ0 σ0 G0 H0 x dx C δ σ G H [] []) (nd : ((sup.toList ++ l).map (·.1)).Nodup) (hz : (sup.toList ++ l).length < 1000) (na : ∀ p ∈ l, NoAttr Ω.K C p.1) (post : PostFl Ω np n W δ0 σ0 G0 H0 x dx C [] σ Dn o) : rdSup Ω fsp tsp C W sup (rdFl Ω fsp tsp W l) Dn σ H := by
  cases sup with
  | none =>
    simp only [rdSup]
    exact fl_ok ok hp hc ne l δ o ev σ G H [] [] Dn st (by simpa using nd) (by simpa using hz) na post
  | some fe =>
    obtain ⟨f, e⟩ := fe
    simp only [rdSup]
    simp only [Option.toList, List.cons_append, List.nil_append, evF] at ev nd hz
    split at ev
    · rename_i r δ1 ee
      split at ev
      · rename_i d δ2 ef
        refine ⟨x, dx, [], st.s0, st.hx, fl_step hp (seE ok e W _ _ ee) ef st fun v G1 H1 s1 dn => ⟨v, rfl, s1.hx, by simp, ?_⟩⟩
        have s2 := s1.set (f := f) dn (by simp) ne
        cases el : evF cf tf gd l δ2 with
        | none => rw [el] at ev; cases ev
        | some o2 =>
          rw [el] at ev
          refine fl_ok ok hp hc ne l δ2 o2 el σ G1 _ _ _ Dn s2 (by simpa using nd) (by simp at hz ⊢; omega) na ?_
          cases o2 with
          | ok gs δ3 =>
            cases ev
            exact fun G' H' vfs' s3 => post G' H' vfs' s3
          | exc c dd δ3 =>
            cases ev
            exact post
      · cases ev
    · rename_i c d δ1 ee
      cases ev
      exact ⟨x, dx, [], st.s0, st.hx, fl_exc (seE ok e W _ _ ee) st post⟩
    · cases ev
end
end Mn

-- Cl4
set_option Elab.async false
set_option linter.all false
set_option maxRecDepth 100000
set_option maxHeartbeats 1000000
set_option autoImplicit false
namespace Mn
open PySem PySem.Spec L2 PyProof.Rows NdefX

/-! ## a class keeps its promise -/
/-- what stands written of super().__init__ -/
def SupW (Ω : Wd) (F : NF) (fi C : Addr) (fr : List Str) (ws : List (Option V)) (slf : Str) (P : ClP) : Option (Str × E) → Prop
  | none => F.cl = [] ∧ fr = [] ∧ ws = []
  | some (f, _) => ∃ cc Dd f2, F.cl = [((Str.ofString "__class__"), cc)] ∧ fr = [Str.ofString "__class__"] ∧ ws = [none] ∧ SupOk Ω.P Ω.K Ω.mg fi F.c cc Dd C f2 slf ∧ SetOk Ω.P Ω.w Ω.K Ω.mg Ω.base 1 f2 C f ∧ (P.sup.2.2.1.endLine == P.sup.2.2.2.1.line) = true ∧
    F.scope.names.lookup ("super" : Str) = some .globalImplicit ∧ F.scope.names.lookup ("__class__" : Str) = some .free
structure ClsOk (Ω : Wd) (a : Addr) (c : Cl) : Prop where
  ca : a = gaK Ω.K c.C
  cls : Cls Ω.K a
  nd : ((c.sup.toList ++ c.flds).map (·.1)).Nodup
  sz : (c.sup.toList ++ c.flds).length < 1000
  na : ∀ p ∈ c.flds, NoAttr Ω.K a p.1
  ex : ∃ (F : NF) (fi : Addr) (N ps fr : List Str) (ws : List (Option V)) (P : ClP) (dV kV doc pm ct oc : Value) (an od : Option Addr) (osl : Array (Option Value)),
    Mk Ω.K a fi ∧ Ω.K.lookup fi = some ⟨oc, od, .func (PySem.W.fnX F.name F.qual F.params F.body F.scope F.cl dV kV doc pm an (.ref F.c) ct), osl⟩ ∧ F.body = upCl Ω.Γ N c P ∧ PySem.W.codeIn Ω.K (.ref F.c) F.qual = true ∧ NScope N ps fr F.scope ∧
    SupW Ω F fi a fr ws (gname N 0) P c.sup ∧ N.length = c.ns ∧ ps.length = c.np ∧ 0 < c.np ∧ wfSs Ω.Γ N ⟨F.scope, false⟩ c.body = true ∧ wfSup Ω.Γ N ⟨F.scope, false⟩ c.sup = true ∧ wfFl Ω.Γ N ⟨F.scope, false⟩ c.flds = true ∧ isVis F.scope (gname N 0) = true ∧
    (c.star = false → ∀ (s : Shared) (us : List Value), us.length = ps.length → BindsTo s (PySem.W.fnX F.name F.qual F.params F.body F.scope F.cl dV kV doc pm an (.ref F.c) ct) ⟨us, []⟩ (ps.zip us)) ∧
    (c.star = true → ∃ p0 pv, ps = [p0, pv] ∧ ∀ (u0 : Value) (rest : List Value), bindArgs (PySem.W.fnX F.name F.qual F.params F.body F.scope F.cl dV kV doc pm an (.ref F.c) ct) ⟨u0 :: rest, []⟩ = (newTuple rest >>= fun t => pure [(p0, u0), (pv, t)]))

section
variable {Ω : Wd} {fns : List Ent} {tf : EO → Option EO} {gd : Gd} {tsp : (XK → TE) → TE} {k : Nat}
theorem cells_none {s : Shared} {H : Hp} : CellsAt [] [] [] s.heap H := ⟨rfl, fun y c h => by simp at h, fun x y c h => by simp at h, fun i y h => by simp at h⟩
theorem cells_cls {A : Around} {outer : List Env} {s : Shared} {H : Hp} {cc : Addr} {o : Obj} {v : Option Value} (e0 : Env0 Ω.P Ω.w Ω.K Ω.mg Ω.base A outer s H) (lk : Ω.K.lookup cc = some o) (ho : o.data = .cell v) : CellsAt [("__class__", cc)] ["__class__"] [none] s.heap H := by
  have hb := e0.mod.kin _ _ lk
  have key : ∀ (y : Str) (c : Addr), List.lookup y [((Str.ofString "__class__"), cc)] = some c → y = "__class__" ∧ c = cc := fun y c h => by
    by_cases e : y = Str.ofString "__class__"
    · subst e
      simp [List.lookup] at h
      exact ⟨rfl, h.symm⟩
    · have hb : (y == Str.ofString "__class__") = false := beq_eq_false_iff_ne.mpr e
      simp [List.lookup, hb] at h
  refine ⟨rfl, fun y c h => ?_, fun x y c h1 h2 => ?_, fun i y h => ?_⟩
  · obtain ⟨_, rfl⟩ := key y c h
    exact ⟨(e0.bs _ _ hb).2, v, o, (e0.bs _ _ hb).1, ho⟩
  · rw [(key x c h1).1, (key y c h2).1]
  · cases i with
    | zero =>
      simp at h
      subst h
      exact ⟨cc, by simp [List.lookup], fun v z => by simp at z⟩
    | succ i => simp at h
theorem good_cls {F : NF} {fi : Addr} {N ps fr : List Str} {A : Around} {outer : List Env} {s : Shared} {H : Hp} {E : XK} {lv : Nat} (S : NScope N ps fr F.scope) (hr : Room (lv + 2) (A.deeper (envF F fi s.heap.objs.size))) (hg : A.guards = some []) :
    Good Ω N ⟨F.scope, false⟩ lv (ncx (L2.CX Ω.P Ω.w) Ω.P Ω.w Ω.K Ω.mg Ω.base N F fi A outer s H E) :=
  ⟨rfl, rfl, rfl, rfl, rfl, rfl, S.nd, rfl, (fun z => by cases z), rfl, hr, hg, passes_of (X := ncx (L2.CX Ω.P Ω.w) Ω.P Ω.w Ω.K Ω.mg Ω.base N F fi A outer s H E) rfl⟩
/-- what is wanted behind __init__ -/
def PostC (Ω : Wd) (as1 : List Sl) (vs1 : List V) (G1 H0 : Hp) (x dx C : Addr) (Q : VK) (E : XK) : CO → Prop
  | .ret (.val (.obj _ fs)) ps => ∀ Gf Hf vfs, Rel Ω.K Ω.T ps (vs1.map some) Gf Hf → GoE as1 ps (vs1.map some) G1 H0 Gf Hf → Hf x = some (.ins C dx vfs) → Hf dx = some (.own x) → Gf x = none → Gf dx = none → DenF Ω.K Gf vfs fs → Q (.ref x) Hf
  | .exc c d ps => ∀ v y Gf Hf, Rel Ω.K Ω.T ps (vs1.map some) Gf Hf → GoE as1 ps (vs1.map some) G1 H0 Gf Hf → Hf y = some (.xd [("value", v)]) → Den Ω.K Gf v d → E (.ref (Ω.ca c)) (some y) Hf
  | _ => True
theorem back_un {K : PySem.W.Frag} {T : List (Addr × Str)} {as1 δ' : List Sl} {vs1 : List V} {σ' : L2.St} {G1 H0 G' H' : Hp} {m : Nat} {x : Addr} (R1 : Rel K T as1 (vs1.map some) G1 H0) (R' : Rel K T δ' σ' G' H')
    (g : GoS (as1.length + 1) (fr0 (.un :: as1) m) δ' (st0 (.ref x :: vs1) m) σ' G1 H0 G' H') : Rel K T (backA as1 δ'.tail) (vs1.map some) G' H' ∧ GoE as1 (backA as1 δ'.tail) (vs1.map some) G1 H0 G' H' := by
  have R0 : Rel K T (.un :: as1) ((V.ref x :: vs1).map some) G1 H0 := R1.un1
  obtain ⟨z1, z2⟩ := back_ok (as := .un :: as1) (vs := .ref x :: vs1) (m := m) R0 R' g
  have hl : 0 < δ'.length := by
    rw [← R'.len, g.len]
    unfold st0
    simp
  cases δ' with
  | nil => simp at hl
  | cons s tl =>
    have e : backA (.un :: as1) (s :: tl) = .un :: backA as1 tl := rfl
    rw [e] at z1 z2
    exact ⟨z1.un1', z2.un1'⟩
theorem cls_frame {cf : Nat → List Sl → Option CO} {fsp : Nat → Sp} {c : Cl} {C x dx : Addr} {as1 : List Sl} {vs1 : List V} {G1 H0 Hx : Hp} {Q : VK} {E : XK} {co : CO} (ok : EvOk Ω cf tf gd fsp tsp c.ns) (hc : Cls Ω.K C) (nd : ((c.sup.toList ++ c.flds).map (·.1)).Nodup) (sz : (c.sup.toList ++ c.flds).length < 1000)
    (na : ∀ p ∈ c.flds, NoAttr Ω.K C p.1) (er : runC cf tf gd c as1 = some co) (hn : as1.length + 1 = c.np) (hns : c.np ≤ c.ns) (R1 : Rel Ω.K Ω.T as1 (vs1.map some) G1 H0) (sub : Same H0 Hx) (hx : Hx x = some (.ins C dx [])) (hd : Hx dx = some (.own x)) (x0 : H0 x = none) (d0 : H0 dx = none) (ne : dx ≠ x)
    (post : PostC Ω as1 vs1 G1 H0 x dx C Q E co) :
    tSeq (rdSs Ω.P Ω.w Ω.K Ω.Γ Ω.gv Ω.ca fsp tsp c.body fun cls d _ H => E cls d H) (rdSup Ω fsp tsp C (fun cls d _ H => E cls d H) c.sup (rdFl Ω fsp tsp (fun cls d _ H => E cls d H) c.flds)) { nx := fun _ H' => V.non = V.non ∧ Q (.ref x) H', rt := fun v H' => v = .non ∧ Q (.ref x) H' } (st0 (.ref x :: vs1) (c.ns - c.np)) Hx := by
  have l1 : vs1.length = as1.length := by have := R1.len; rw [List.length_map] at this; exact this
  have Ru : Rel Ω.K Ω.T (.un :: as1) ((V.ref x :: vs1).map some) G1 H0 := R1.un1
  have R0 : Rel Ω.K Ω.T (fr0 (.un :: as1) (c.ns - c.np)) (st0 (.ref x :: vs1) (c.ns - c.np)) G1 H0 := fr0_rel Ru
  have hlen : (st0 (V.ref x :: vs1) (c.ns - c.np)).length = c.ns := by
    unfold st0
    rw [List.length_append, List.length_map, List.length_replicate, List.length_cons, l1, hn]
    omega
  have st : CSt Ω.K Ω.T c.np c.ns (fr0 (.un :: as1) (c.ns - c.np)) (st0 (.ref x :: vs1) (c.ns - c.np)) G1 H0 x dx C (fr0 (.un :: as1) (c.ns - c.np)) (st0 (.ref x :: vs1) (c.ns - c.np)) G1 Hx [] [] :=
    ⟨R0.ext sub, GoS.ext sub, hlen, rfl, hx, hd, R1.gfree x0, R1.gfree d0, .nil, x0, d0⟩
  unfold runC at er
  have hp : 0 < c.np := by omega
  cases eo : evSs cf tf gd (c.np, c.ns) c.body (.un :: as1 ++ List.replicate (c.ns - c.np) .un) with
  | none => rw [eo] at er; cases er
  | some o =>
    rw [eo] at er
    refine ssSs ok c.body (fun cls d _ H => E cls d H) _ _ eo _ G1 Hx _ hlen (R0.ext sub) ?_
    show PostS Ω c.np _ _ (fr0 (.un :: as1) (c.ns - c.np)) _ _ _ _
    cases o with
    | nx δ' =>
      intro σ' G' H' R' g'
      have st' := st.sub hp R' g'
      dsimp only at er
      cases ef : evF cf tf gd (c.sup.toList ++ c.flds) δ' with
      | none => rw [ef] at er; cases er
      | some fo =>
        rw [ef] at er
        refine sup_ok ok hp hc ne c.sup c.flds δ' fo ef σ' G' H' _ st' nd sz na ?_
        cases fo with
        | ok fs δ1 =>
          cases er
          intro Gf Hf vfs sf
          have gf := sf.g
          rw [← hn] at gf
          obtain ⟨z1, z2⟩ := back_un R1 sf.R gf
          exact ⟨rfl, post Gf Hf vfs z1 z2 sf.hx sf.hd sf.gx sf.gd (by simpa using sf.dn)⟩
        | exc cc d δ1 =>
          cases er
          intro v y Gf Hf Rf gf hy dn
          rw [← hn] at gf
          obtain ⟨z1, z2⟩ := back_un R1 Rf gf
          exact post v y Gf Hf z1 z2 hy dn
    | rt r δ' => cases er
    | ex cc d δ' =>
      cases er
      intro v y σ' G' H' R' g' hy dn
      have gf := (GoS.ext (np := c.np) (δ := fr0 (.un :: as1) (c.ns - c.np)) (σ := st0 (.ref x :: vs1) (c.ns - c.np)) (G := G1) sub).trans g'
      rw [← hn] at gf
      obtain ⟨z1, z2⟩ := back_un R1 R' gf
      exact post v y G' H' z1 z2 hy dn
end
end Mn

-- Cl5
set_option Elab.async false
set_option linter.all false
set_option maxRecDepth 100000
set_option maxHeartbeats 1000000
set_option autoImplicit false
namespace Mn
open PySem PySem.Spec L2 PyProof.Rows NdefX
section
variable {Ω : Wd} {fns : List Ent} {tf : EO → Option EO} {gd : Gd} {tsp : (XK → TE) → TE} {k : Nat}
theorem made_same {C : Addr} {s : Shared} {H : Hp} (n1 : H s.heap.objs.size = none) (n2 : H (s.heap.objs.size + 1) = none) : Same H (madeH C s H) :=
  (same_new2 n1).trans (same_new2 (by rw [upd_ne (Ne.symm (Nat.ne_of_lt (Nat.lt_succ_self _)))]; exact n2))
theorem made_x {C : Addr} {s : Shared} {H : Hp} : madeH C s H (s.heap.objs.size + 1) = some (.ins C s.heap.objs.size []) := upd_same
theorem made_d {C : Addr} {s : Shared} {H : Hp} : madeH C s H s.heap.objs.size = some (.own (s.heap.objs.size + 1)) := by
  unfold madeH
  rw [upd_ne (Nat.ne_of_lt (Nat.lt_succ_self _)), upd_same]
/-- the frame of __init__ -/
theorem sup_a {F : NF} {fi C : Addr} {N ps fr : List Str} {ws : List (Option V)} {P : ClP} {A : Around} {outer : List Env} {s : Shared} {H : Hp} {Ee : XK} (S : NScope N ps fr F.scope) (h0 : 0 < ps.length) : ∀ (sup : Option (Str × E)), SupW Ω F fi C fr ws (gname N 0) P sup →
    SupA Ω N (ncx (L2.CX Ω.P Ω.w) Ω.P Ω.w Ω.K Ω.mg Ω.base N F fi A outer s H Ee) P C sup
  | none, _ => True.intro
  | some (f, e), ⟨cc, Dd, f2, h1, h2, h3, h4, h5, h6, h7, h8⟩ => by
    have hN : 0 < N.length := by
      have := congrArg List.length S.pre
      rw [List.length_take, List.length_append] at this
      omega
    have e0 : N[0]? = some (gname N 0) := gname_at hN
    have ep : ps[0]? = some (gname N 0) := by
      have e1 : (ps ++ fr)[0]? = some (gname N 0) := by
        rw [← S.pre, List.getElem?_take_of_lt (by omega)]
        exact e0
      rw [List.getElem?_append_left h0] at e1
      exact e1
    refine ⟨fi, F.c, cc, Dd, f2, h4, ⟨rfl, rfl, h7, h8, S.par _ (List.mem_of_getElem? ep), ?_, e0⟩, h5, h6⟩
    show F.cl.lookup (Str.ofString "__class__") = some cc
    rw [h1]
    simp [List.lookup]
theorem cells_w {F : NF} {fi C : Addr} {fr : List Str} {ws : List (Option V)} {slf : Str} {P : ClP} {A : Around} {outer : List Env} {s : Shared} {H : Hp} (e0 : Env0 Ω.P Ω.w Ω.K Ω.mg Ω.base A outer s H) : ∀ (sup : Option (Str × E)), SupW Ω F fi C fr ws slf P sup → CellsAt F.cl fr ws s.heap H
  | none, ⟨h1, h2, h3⟩ => by
    rw [h1, h2, h3]
    exact cells_none
  | some (f, e), ⟨cc, Dd, f2, h1, h2, h3, h4, _⟩ => by
    rw [h1, h2, h3]
    obtain ⟨cl, cld, csl, lk⟩ := h4.cell
    exact cells_cls e0 lk rfl
theorem ws_none {F : NF} {fi C : Addr} {fr : List Str} {ws : List (Option V)} {slf : Str} {P : ClP} : ∀ (sup : Option (Str × E)), SupW Ω F fi C fr ws slf P sup → ws = List.replicate fr.length none
  | none, ⟨h1, h2, h3⟩ => by rw [h2, h3] <;> rfl
  | some (f, e), ⟨cc, Dd, f2, h1, h2, h3, h4, _⟩ => by rw [h2, h3] <;> rfl
theorem startF_st0 {N : List Str} {vs : List V} {ws : List (Option V)} {j : Nat} (hw : ws = List.replicate j none) (hj : j + vs.length ≤ N.length) : startF N vs ws = st0 vs (N.length - vs.length) := by
  unfold startF st0
  rw [hw, List.length_replicate, List.replicate_append_replicate]
  congr 2
  omega
theorem frm_cls {F : NF} {fi : Addr} {N ps fr : List Str} {A : Around} {outer : List Env} {s : Shared} {H : Hp} {E : XK} (S : NScope N ps fr F.scope) (hr : Room 2 (A.deeper (envF F fi s.heap.objs.size))) : Frm (ncx (L2.CX Ω.P Ω.w) Ω.P Ω.w Ω.K Ω.mg Ω.base N F fi A outer s H E) := by
  refine ⟨fun x h => ?_, hr⟩
  rcases h with h | h
  · exact .inr h
  · exact absurd rfl (S.nocell _ (PySem.mem_of_lookup h))
/-- the new instance is handed on -/
theorem post_new {as ps : List Sl} {vs : List V} {G H Gf Hf : Hp} {x dx C : Addr} {vfs : List (Str × V)} {fs : List (Str × Mn.D)} {Cn : Str} {Q : VK} {E : XK} (ec : C = gaK Ω.K Cn) (post : PostF Ω as vs G H Q E (.ret (.val (.obj Cn fs)) ps)) (R : Rel Ω.K Ω.T ps (vs.map some) Gf Hf) (g : GoE as ps (vs.map some) G H Gf Hf)
    (hx : Hf x = some (.ins C dx vfs)) (hd : Hf dx = some (.own x)) (gx : Gf x = none) (gdd : Gf dx = none) (dn : DenF Ω.K Gf vfs fs) (x0 : H x = none) (d0 : H dx = none) (ne : dx ≠ x) : Q (.ref x) Hf := by
  have sm : Same Gf (upd (upd Gf dx (.own x)) x (.ins C dx vfs)) := same_addI gx gdd ne
  refine post (.ref x) _ Hf (R.addI hx hd gx gdd) (g.addG sm fun b o q => ?_) ?_
  · rcases new_addI q with z | z | z
    · exact .inl z
    · exact .inr (by rw [z]; exact x0)
    · exact .inr (by rw [z]; exact d0)
  · show Den Ω.K _ (.ref x) (.obj Cn fs)
    refine .obj (dx := dx) (vs := vfs) ?_ ?_ (dn.mono sm)
    · rw [upd_same, ec]
    · rw [upd_ne ne, upd_same]
theorem cls_any {f : Nat} {a : Addr} {c : Cl} (D : ClsOk Ω a c) (hf : fns[f]? = some (.cls c)) (hs : c.star = false) (fx : Facts Ω (spR Ω fns tf gd k) (5 * k)) (tl : ∀ N, TellOk Ω N (5 * k) tsp) (ra : RaiOk Ω (5 * k)) (ok : EvOk Ω (run fns tf gd k) tf gd (spR Ω fns tf gd k) tsp c.ns) : FnG Ω (5 * (k + 1)) a (spR Ω fns tf gd (k + 1) f) := by
  intro A outer s H us vs Q E hr hg e0 r h
  obtain ⟨as, G, co, er, R0, post⟩ := h
  obtain ⟨F, fi, N, ps, fr, ws, P, dV, kV, doc, pm, ct, oc, an, od, osl, M, lk, hbd, hcd, S, sw, hN, hps, hp0, wb, wsu, wfl, hv, hb, _⟩ := D.ex
  have l : vs.length = as.length := by have := R0.len; rw [List.length_map] at this; exact this
  unfold run at er
  rw [hf] at er
  simp only [hs] at er
  rw [if_neg (by decide)] at er
  split at er
  · rename_i hn
    have hle : fr.length + ps.length ≤ N.length := by
      have := congrArg List.length S.pre
      rw [List.length_take, List.length_append] at this
      omega
    have n1 : H s.heap.objs.size = none := e0.hok.fresh (Nat.le_refl _)
    have n2 : H (s.heap.objs.size + 1) = none := e0.hok.fresh (Nat.le_succ _)
    have e2 := (env0_made (C := a) e0).make a us []
    have lps : (V.ref (s.heap.objs.size + 1) :: vs).length = ps.length := by rw [List.length_cons, l, hn, hps]
    have r2 : Vals (V.ref (s.heap.objs.size + 1) :: vs) (Value.ref (s.heap.objs.size + 1) :: us) := .cons rfl r
    refine run_new M e0 ?_
    refine run_cell (k := 5 * k + 3) (ws := ws) lk hcd S (fun s H e => cells_w e c.sup sw) (Room.make hr a us []) e2 (bnd_of (hb hs _ _ (by rw [← r2.length]; exact lps)) e2 r2 lps) ?_
    rintro s3 H3 vs3 ⟨rfl, rfl⟩ hr'
    have g := good_cls (Ω := Ω) (E := E) (outer := outer) (H := madeH a s H) (lv := 5 * k) S (hr'.mono (by omega)) hg
    have pt := pats_cl (b := F.body) (W := fun cls d _ H => E cls d H) fx (tl N) ra g (frm_cls S (hr'.mono (by omega))) (takes_of rfl rfl rfl rfl) (by omega) hv S.kind wb wsu wfl (sup_a S (by omega) c.sup sw)
    rw [← hbd] at pt
    refine ⟨_, pt, ?_⟩
    rw [startF_st0 (ws_none c.sup sw) (by rw [lps]; omega), lps, hN, hps]
    refine cls_frame ok D.cls D.nd D.sz D.na er hn (by omega) R0 (made_same n1 n2) made_x made_d n2 n1 (Nat.ne_of_lt (Nat.lt_succ_self _)) ?_
    cases co with
    | ret rd pps =>
      cases rd with
      | val d =>
        cases d with
        | obj Cn fs =>
          have ec : Cn = c.C := by
            unfold runC at er
            split at er
            · split at er
              · cases er; rfl
              · cases er
              · cases er
            · cases er
            · cases er
          exact fun Gf Hf vfs R g hx hd gx gdd dn => post_new (by rw [ec]; exact D.ca) post R g hx hd gx gdd dn n2 n1 (Nat.ne_of_lt (Nat.lt_succ_self _))
        | _ => exact True.intro
      | new xs => exact True.intro
    | exc cc d pps => exact post
  · cases er
end
end Mn

-- Cl6
set_option Elab.async false
set_option linter.all false
set_option maxRecDepth 100000
set_option maxHeartbeats 1000000
set_option autoImplicit false
namespace Mn
open PySem PySem.Spec L2 PyProof.Rows NdefX
section
variable {Ω : Wd} {fns : List Ent} {tf : EO → Option EO} {gd : Gd} {tsp : (XK → TE) → TE} {k : Nat}
theorem star_backE {K : PySem.W.Frag} {T : List (Addr × Str)} {as δ' : List Sl} {vs : List V} {σ' : L2.St} {G H G' H' : Hp} {p : Addr} {ds : List Mn.D} (R0 : Rel K T as (vs.map some) G H) (hp : H p = none) (ev : vals as = some ds) (R' : Rel K T δ' σ' G' H')
    (g : GoE [.val (.tup ds)] δ' ([V.ref p].map some) (upd G p (.tup vs)) (upd H p (.tup vs)) G' H') : Rel K T as (vs.map some) G' H' ∧ GoE as as (vs.map some) G H G' H' := by
  have sG := same_new2 (o := .tup vs) (R0.gfree hp)
  have sH := same_new2 (o := .tup vs) hp
  have no0 : ∀ b, ¬ Own [.val (.tup ds)] ([V.ref p].map some) b := fun b ⟨i, ⟨xs, z⟩, _⟩ => by
    cases i with
    | zero => rcases z with z | z <;> simp at z
    | succ i => rcases z with z | z <;> simp at z
  have noA : ∀ (i : Nat) (xs : List Mn.D), ¬ Ow as[i]? xs := fun i xs z => by
    rcases z with z | z
    · obtain ⟨d, q⟩ := vals_no ev i _ z
      cases q
    · obtain ⟨d, q⟩ := vals_no ev i _ z
      cases q
  refine ⟨⟨R0.len, R'.sub, R'.ntb, R'.tab, fun i d h => ?_, fun i xs h => absurd h (noA i xs), fun i j b ⟨⟨xs, z⟩, _⟩ _ => absurd z (noA i xs)⟩,
    ⟨⟨sG.trans g.go.ex, fun b o q n t => g.go.keep b o (sH _ _ q) (no0 b) t, fun b o q => g.go.live b o (sH _ _ q), fun b o q => ?_, fun b ⟨i, ⟨xs, z⟩, _⟩ => absurd z (noA i xs)⟩, fun i xs h => absurd h (noA i xs), fun i xs h => absurd (.inr h) (noA i xs), fun i b ⟨⟨xs, z⟩, _⟩ => absurd z (noA i xs)⟩⟩
  · obtain ⟨v, e1, e2⟩ := R0.val i d h
    exact ⟨v, e1, e2.mono (sG.trans g.go.ex)⟩
  · rcases g.go.new b o q with z | z | z
    · by_cases hb : b = p
      · rw [hb]
        exact .inr (.inl hp)
      · rw [upd_ne hb] at z
        exact .inl z
    · by_cases hb : b = p
      · rw [hb, upd_same] at z
        cases z
      · rw [upd_ne hb] at z
        exact .inr (.inl z)
    · exact absurd z (no0 b)
theorem rel_tup {as : List Sl} {vs : List V} {G H : Hp} {p : Addr} {ds : List Mn.D} (R0 : Rel Ω.K Ω.T as (vs.map some) G H) (hp : H p = none) (dn : DenL Ω.K G vs ds) : Rel Ω.K Ω.T [.val (.tup ds)] ([V.ref p].map some) (upd G p (.tup vs)) (upd H p (.tup vs)) := by
  have Rl := R0.laidG (o := .tup vs) hp (fun ps z => by cases z)
  refine ⟨rfl, Rl.sub, Rl.ntb, Rl.tab, fun i d h => ?_, fun i xs h => ?_, fun i j b ⟨⟨xs, h⟩, _⟩ _ => ?_⟩
  · cases i with
    | zero =>
      simp at h
      subst h
      exact ⟨_, rfl, .tup (.inl (.inl upd_same)) (dn.mono (same_new2 (R0.gfree hp)))⟩
    | succ i => simp at h
  · cases i with
    | zero => rcases h with h | h <;> simp at h
    | succ i => rcases h with h | h <;> simp at h
  · cases i with
    | zero => rcases h with h | h <;> simp at h
    | succ i => rcases h with h | h <;> simp at h
theorem cls_star {f : Nat} {a : Addr} {c : Cl} (D : ClsOk Ω a c) (hf : fns[f]? = some (.cls c)) (hs : c.star = true) (fx : Facts Ω (spR Ω fns tf gd k) (5 * k)) (tl : ∀ N, TellOk Ω N (5 * k) tsp) (ra : RaiOk Ω (5 * k)) (ok : EvOk Ω (run fns tf gd k) tf gd (spR Ω fns tf gd k) tsp c.ns) : FnG Ω (5 * (k + 1)) a (spR Ω fns tf gd (k + 1) f) := by
  intro A outer s H us vs Q E hr hg e0 r h
  obtain ⟨as, G, co, er, R0, post⟩ := h
  obtain ⟨F, fi, N, ps, fr, ws, P, dV, kV, doc, pm, ct, oc, an, od, osl, M, lk, hbd, hcd, S, sw, hN, hps, hp0, wb, wsu, wfl, hv, _, hb⟩ := D.ex
  have l : vs.length = as.length := by have := R0.len; rw [List.length_map] at this; exact this
  obtain ⟨p0, pv, rfl, hbind⟩ := hb hs
  unfold run at er
  rw [hf] at er
  simp only [hs] at er
  rw [if_pos True.intro] at er
  split at er
  · rename_i ds ev
    split at er
    · rename_i hz
      have dn : DenL Ω.K G vs ds := vals_den (T := Ω.T) (H := H) R0.val l ev
      have hzv : vs.length ≤ sizeLine := by rw [dn.length]; exact le_big hz
      have hle : fr.length + 2 ≤ N.length := by
        have := congrArg List.length S.pre
        rw [List.length_take, List.length_append] at this
        simp at this
        omega
      have hl2 : us.length ≤ sizeLine := by rw [← r.length]; exact hzv
      have n1 : H s.heap.objs.size = none := e0.hok.fresh (Nat.le_refl _)
      have n2 : H (s.heap.objs.size + 1) = none := e0.hok.fresh (Nat.le_succ _)
      have e2 := (env0_made (C := a) e0).make a us []
      refine run_new M e0 ?_
      refine run_cell (k := 5 * k + 3) (ws := ws) lk hcd S (fun s H e => cells_w e c.sup sw) (Room.make hr a us []) e2 (G := fun xs H2 => ∃ p, madeH a s H p = none ∧ xs = [V.ref (s.heap.objs.size + 1), V.ref p] ∧ H2 = upd (madeH a s H) p (.tup vs)) (fun A' Ex Q' h => ?_) ?_
      · have hn : madeH a s H (madeS a s).heap.objs.size = none := e2.hok.fresh (Nat.le_refl _)
        rw [hbind _ us]
        refine wpAny_bind (wpAny_newTuple (wpAny_pure ?_) hl2)
        have new : ObjOk Ω.P Ω.w (upd (madeH a s H) (madeS a s).heap.objs.size (.tup vs)) ((madeS a s).heap.push ({ cls := .type "tuple", data := .seq us.toArray } : Obj)) (madeS a s).heap.objs.size (.tup vs) := ⟨hzv, us, r, ⟨_, Heap.get?_push_size _ rfl, rfl, _, rfl⟩⟩
        have un := StX.un_laid (fs := frs outer) (s := madeS a s) (o := ({ cls := .type "tuple", data := .seq us.toArray } : Obj)) (u := .tup vs) hn
        exact h _ _ [V.ref (s.heap.objs.size + 1), V.ref (madeS a s).heap.objs.size] [Value.ref (s.heap.objs.size + 1), Value.ref (madeS a s).heap.objs.size] (StX.env0_laid e2 new) un rfl (fun e s' => StX.cxUp outer (madeS a s) (madeH a s H) _ _ E e s' un (fun b o q => Heap.get?_push_of_some _ q) rfl) (.cons rfl (.cons rfl .nil)) rfl ⟨_, hn, rfl, rfl⟩
      · rintro s3 H3 vs3 ⟨p, hp, rfl, rfl⟩ hr'
        have px : p ≠ s.heap.objs.size + 1 := fun z => by
          rw [z, made_x] at hp
          cases hp
        have pd : p ≠ s.heap.objs.size := fun z => by
          rw [z, made_d] at hp
          cases hp
        have hpH : H p = none := by
          unfold madeH at hp
          rw [upd_ne px, upd_ne pd] at hp
          exact hp
        have g := good_cls (Ω := Ω) (E := E) (outer := outer) (H := upd (madeH a s H) p (.tup vs)) (lv := 5 * k) S (hr'.mono (by omega)) hg
        have pt := pats_cl (b := F.body) (W := fun cls d _ H => E cls d H) fx (tl N) ra g (frm_cls S (hr'.mono (by omega))) (takes_of rfl rfl rfl rfl) (by omega) hv S.kind wb wsu wfl (sup_a S (by simp) c.sup sw)
        rw [← hbd] at pt
        refine ⟨_, pt, ?_⟩
        have hps2 : c.np = 2 := hps.symm
        rw [startF_st0 (ws_none c.sup sw) (by simp; omega)]
        have hm : N.length - [V.ref (s.heap.objs.size + 1), V.ref p].length = c.ns - c.np := by rw [hN, hps2] <;> rfl
        rw [hm]
        have R1 := rel_tup R0 hpH dn
        have sub : Same (upd H p (.tup vs)) (upd (madeH a s H) p (.tup vs)) := same_upd2 (made_same n1 n2)
        have ne := Nat.ne_of_lt (Nat.lt_succ_self s.heap.objs.size)
        cases ec : runC (run fns tf gd k) tf gd c [.val (.tup ds)] with
        | none => rw [ec] at er; cases er
        | some co1 =>
          rw [ec] at er
          refine cls_frame ok D.cls D.nd D.sz D.na ec (by rw [hps2]; rfl) (by omega) R1 sub (by rw [upd_ne (Ne.symm px)]; exact made_x) (by rw [upd_ne (Ne.symm pd)]; exact made_d) (by rw [upd_ne (Ne.symm px)]; exact n2) (by rw [upd_ne (Ne.symm pd)]; exact n1) ne ?_
          cases co1 with
          | ret rd pps =>
            cases er
            cases rd with
            | val d =>
              cases d with
              | obj Cn fs =>
                have ecn : Cn = c.C := by
                  unfold runC at ec
                  split at ec
                  · split at ec
                    · cases ec; rfl
                    · cases ec
                    · cases ec
                  · cases ec
                  · cases ec
                intro Gf Hf vfs R g hx hd gx gdd dnf
                obtain ⟨z1, z2⟩ := star_backE R0 hpH ev R g
                exact post_new (by rw [ecn]; exact D.ca) post z1 z2 hx hd gx gdd dnf n2 n1 ne
              | _ => exact True.intro
            | new xs => exact True.intro
          | exc cc d pps =>
            cases er
            intro v y Gf Hf R g hy dnf
            obtain ⟨z1, z2⟩ := star_backE R0 hpH ev R g
            exact post v y Gf Hf z1 z2 hy dnf
    · cases er
  · cases er
end
end Mn

-- Mn20l
set_option Elab.async false
set_option linter.all false
set_option maxRecDepth 100000
set_option maxHeartbeats 1000000
set_option autoImplicit false
namespace Mn
open PySem PySem.Spec L2 PyProof.Rows
/-- what stands written of the own classes -/
structure OwnsW (Ω : Wd) : Prop where
  mth : ∀ C m f, Ω.Γ.mth.lookup (C, m) = some f → OwnC Ω.K Ω.Γ C ∧ PySem.W.findIn Ω.K (.ref (gaK Ω.K C)) m = some (some (.ref (Ω.fa f))) ∧ PySem.W.isFn Ω.K (.ref (Ω.fa f)) = true
  cls : ∀ c, c < Ω.Γ.ocl.length → Ω.mg (gname Ω.Γ.ocl c) = some (.ref (gaK Ω.K (gname Ω.Γ.ocl c)))
  sub : ∀ C l, Ω.Γ.sub.lookup C = some l → (∀ c, c < Ω.Γ.ocl.length → PySem.W.kitOne Ω.K (.ref (gaK Ω.K C)) (.ref (gaK Ω.K (gname Ω.Γ.ocl c))) = some (l.contains c)) ∧
    Cls Ω.K (gaK Ω.K C) ∧ PySem.W.findIn Ω.K (.ref (gaK Ω.K C)) (Str.ofString "__class__") = some (some (.builtin "object.__class__")) ∧ PySem.W.mroIn Ω.K (gaK Ω.K C) (.type "object") = some true
  get : PySem.W.specialIn Ω.K (.builtin "object.__class__") (Str.ofString "__get__") = some (some (.builtin "getset_descriptor.__get__")) ∧ PySem.W.takesIn Ω.K (.builtin "object.__class__") = some true
  sub0 : ∀ T ∈ blt7, ∀ c, c < Ω.Γ.ocl.length → PySem.W.kitOne Ω.K (.type T) (.ref (gaK Ω.K (gname Ω.Γ.ocl c))) = some false
  prp : ∀ C f fld, (C, f, fld) ∈ Ω.Γ.prp → Cls Ω.K (gaK Ω.K C) ∧ ∃ p g fd, PropOf Ω.K (gaK Ω.K C) f p g ∧ FnOk Ω.P Ω.w Ω.K Ω.mg Ω.base C8.CX0 1 g fd ["self"] (getSp (gaK Ω.K C) fld) ∧ Binds Ω.K fd ["self"] []
/-- what a law's text must give -/
structure Law (Ω : Wd) (fns : List Ent) (tf : EO → Option EO) (gd : Gd) (tsp : (XK → TE) → TE) : Prop where
  gls : ∀ g, g < Ω.Γ.gls.length → ∃ u, Ω.mg (gname Ω.Γ.gls g) = some u ∧ RelV (Ω.gv g) u
  bis : ∀ b : Bi, Ω.mg b.nm = none
  isi : Ω.mg "isinstance" = none
  rng : Ω.mg "range" = none
  set : Ω.mg "set" = none
  sys : ∃ o, Ω.base.get? sysModules = some o ∧ o.cls ≠ .type "list"
  tys : ∀ t : String, bootBuiltins (Str.ofString t) = some (.type t) → Ω.mg (Str.ofString t) = none
  nms : ∀ f, f < Ω.Γ.fns.length → Ω.mg (gname Ω.Γ.fns f) = some (.ref (Ω.fa f)) ∧ PySem.W.keepIn Ω.K (.ref (Ω.fa f)) = true
  dfs : ∀ f F, fns[f]? = some (.fn F) → ∃ x q N ps sc lm, DefOk Ω x q (Ω.fa f) F N ps sc lm ((Ω.Γ.kws.filter fun p => p.1 == f).map (·.2))
  cls : ∀ f c, fns[f]? = some (.cls c) → ClsOk Ω (Ω.fa f) c
  kwc : ∀ p ∈ Ω.Γ.kws, ∀ c, fns[p.1]? ≠ some (.cls c)
  tl : ∀ N lv, TellOk Ω N lv tsp
  ra : ∀ lv, RaiOk Ω lv
  mth : gd.mth = Ω.Γ.mth
  prp : gd.prp = Ω.Γ.prp
  sub : gd.sub = Ω.Γ.sub
  nc : gd.nc = Ω.Γ.ocl.length
  own : OwnsW Ω
  gl : ∀ (g : Nat) (d : Mn.D), gd.gl[g]? = some d → ∀ G, Den Ω.K G (Ω.gv g) d
  td : ∀ (n : Nat) (t : XK → TE) (W : WX) (δ : List Sl) (o o' : EO), (∀ E : XK, SE Ω (t E) (fun c d _ H => E c d H) n δ o) → tf o = some o' → SE Ω (tsp t) W n δ o'
section
variable {Ω : Wd} {fns : List Ent} {tf : EO → Option EO} {gd : Gd} {tsp : (XK → TE) → TE}
theorem Law.owns (L : Law Ω fns tf gd tsp) {fsp : Nat → Sp} {lv : Nat} (h : ∀ f, FnG Ω lv (Ω.fa f) (fsp f)) : Owns Ω fsp lv :=
  ⟨fun C m f e => ⟨(L.own.mth C m f e).1, (L.own.mth C m f e).2.1, (L.own.mth C m f e).2.2, h f⟩, L.own.cls, L.own.sub, L.own.get, L.own.sub0, L.own.prp⟩
theorem fn_none {k f : Nat} {lv : Nat} {a : Addr} {mk : List Value → Args} (h : ∀ as, run fns tf gd k f as = none) : FnGA Ω lv a mk (spR Ω fns tf gd k f) := fun A outer s H us vs Q E _ _ _ _ ⟨as, G, co, er, _⟩ => by
  rw [h as] at er
  cases er
theorem Law.facts (L : Law Ω fns tf gd tsp) : ∀ k, Facts Ω (spR Ω fns tf gd k) (5 * k)
  | 0 => ⟨L.gls, L.bis, L.isi, L.rng, L.set, L.sys, L.tys, fun f hf => ⟨(L.nms f hf).1, (L.nms f hf).2, fn_none fun as => by unfold run; rfl⟩, fun p hp => fn_none fun as => by unfold run; rfl, L.owns fun f => fn_none fun as => by unfold run; rfl⟩
  | k + 1 => by
    have fx := L.facts k
    have ev : ∀ n, EvOk Ω (run fns tf gd k) tf gd (spR Ω fns tf gd k) tsp n := fun n => ⟨fun _ => rfl, L.mth, L.prp, L.sub, L.nc, ⟨_, fx.own⟩, L.gl, L.td n⟩
    have all : ∀ f, FnG Ω (5 * (k + 1)) (Ω.fa f) (spR Ω fns tf gd (k + 1) f) := fun f => by
      cases e : fns[f]? with
      | none => exact fn_none fun as => by unfold run; rw [e]
      | some en =>
        cases en with
        | no => exact fn_none fun as => by unfold run; rw [e]
        | fn F =>
          obtain ⟨x, q, N, ps, sc, lm, D⟩ := L.dfs f F e
          cases hs : F.star with
          | false => exact fn_any D e hs fx (L.tl _ _) (L.ra _) (ev _) fun fd b s us hl => b.1 hs s us hl
          | true => exact fn_star D e hs fx (L.tl _ _) (L.ra _) (ev _)
        | cls c =>
          have D := L.cls f c e
          cases hs : c.star with
          | false => exact cls_any D e hs fx (fun N => L.tl _ _) (L.ra _) (ev _)
          | true => exact cls_star D e hs fx (fun N => L.tl _ _) (L.ra _) (ev _)
    refine ⟨L.gls, L.bis, L.isi, L.rng, L.set, L.sys, L.tys, fun f hf => ⟨(L.nms f hf).1, (L.nms f hf).2, all f⟩, fun p hp => ?_, L.owns all⟩
    cases e : fns[p.1]? with
    | none => exact fn_none fun as => by unfold run; rw [e]
    | some en =>
      cases en with
      | no => exact fn_none fun as => by unfold run; rw [e]
      | cls c => exact absurd e (L.kwc p hp c)
      | fn F =>
        obtain ⟨x, q, N, ps, sc, lm, D⟩ := L.dfs p.1 F e
        have hm : p.2 ∈ (Ω.Γ.kws.filter fun q => q.1 == p.1).map (·.2) := List.mem_map.mpr ⟨p, List.mem_filter.mpr ⟨hp, by simp⟩, rfl⟩
        have hs : F.star = false := by
          obtain ⟨_, _, _, _, _, _, _, _, _, _, _, _, _, bo, _⟩ := D.ex
          exact (bo.2.2 _ hm).1
        exact fn_any D e hs fx (L.tl _ _) (L.ra _) (ev _) fun fd b s us hl => (b.2.2 _ hm).2.2 s us hl
end
end Mn

-- Mn21
set_option Elab.async false
set_option linter.all false
set_option maxRecDepth 100000
set_option maxHeartbeats 2000000
set_option autoImplicit false
namespace Mn
open PySem PySem.Spec L2 PyProof.Rows

/-! ## try, several clauses 'except x as n' -/
abbrev HCl := Value × (Addr → Value → Option Addr → TS)
/-- what the clauses wish: slot i is n's -/
def wMas (K : PySem.W.Frag) (i : Nat) (Wout : WX) (D : Ends) : List HCl → WX
  | [] => Wout
  | (c, ts) :: r => fun cls d σ H => ∃ b, PySem.W.exmOne K cls c = some b ∧
      (b = true → ∀ a, H a = none → ts a cls d { nx := fun σ' H' => D.nx (σ'.set i none) H', rt := D.rt, bk := fun σ' H' => D.bk (σ'.set i none) H', ct := fun σ' H' => D.ct (σ'.set i none) H' } (σ.set i (some (.ref a))) H) ∧ (b = false → wMas K i Wout D r cls d σ H)
inductive HdsA (X : Cx) (n : Str) : List ExceptHandler → List HCl → Prop
  | nil : HdsA X n [] []
  | cons {x : Str} {c : Value} {ts : Addr → Value → Option Addr → TS} {b₀ : Stmt} {suite : List Stmt} {np pos' : Pos} {hds : List ExceptHandler} {l : List HCl} (hc : Names X x c)
      (hsu : ∀ (a : Addr) (oe : Obj) (cls : Value) (d : Option Addr) (pn : List (Addr × Obj)), Zc cls d oe → (∃ vs, oe.data = .fields vs) → PSs (X.suite a ((a, oe) :: pn)) (b₀ :: suite) (ts a cls d)) (r : HdsA X n hds l) :
      HdsA X n (.ExceptHandler (some (.Name x np)) (some n) (b₀ :: suite) pos' :: hds) ((c, ts) :: l)
section
variable {X : Cx} {body : List Stmt} {h₀ : ExceptHandler} {hds : List ExceptHandler} {l : List HCl} {pos : Pos} {tb : WX → TS} {Wout : WX} {i : Nat} {n : Str}
theorem ps_try_mas (hs : X.stack = X.env :: X.outer) (hf : X.env.frame = some X.env.locals) (hN : X.N.Nodup) (hi : X.N[i]? = some n) (hln : X.env.kindOf n = some .local) (tk : Takes X Wout)
    (hb : ∀ (W : WX) (pn : List (Addr × Obj)) (xe : Value → Shared → Prop), Takes (X.tr pn xe) W → PassesOwn (model X.prog X.w) X.A X.env xe → PSs (X.tr pn xe) body (tb W))
    (hh : HdsA X n (h₀ :: hds) l) : PS X (.Try body (h₀ :: hds) [] [] pos) (fun D σ H => tb (wMas X.K i Wout D l) D σ H) := by
  refine ⟨fun pins s σ H D I h => ?_⟩
  have ok := I.ok
  have hfr : X.A.frames = some (X.env :: X.outer) := by rw [ok.frames, hs]
  refine wpAny_Try_except ?_
  refine wpAny_mono ((hb (wMas X.K i Wout D l) (X.pn ++ pins) (fun e s₁ => wpAny (model X.prog X.w) X.A (noteFrame e X.env) (fun _ s₂ => wpAny (model X.prog X.w) X.A (setFlight e none) (fun _ s₃ =>
    wpAny (model X.prog X.w) X.A (handleBy e X.env (h₀ :: hds)) (SP X pins D) X.xe s₃) X.xe s₂) X.xe s₁) (fun u s' xx => ?_) PassesOwn.looking).run [] s σ H D (I.toTry _) h) (fun f s1 hsp => ?_) (fun e s1 he => he)
  · obtain ⟨a, B, sI, pins', σ', H', cls, d, rfl, J', nb, up, sky, na, os, ag, w⟩ := xx
    have J : L2.Inv X pins σ' H' sI := J'.ofTry ok
    have sky' : Sky B (X.env :: X.outer) a (Zc cls d) X.env.locals s'.heap := by rw [← hs]; exact sky
    show wpAny (model X.prog X.w) X.A (noteFrame (.ref a) X.env) _ _ _
    refine Sky.land Zc.steady hfr hf sky' fun h3 fl3 up3 => ?_
    have J3 : L2.Inv X pins σ' H' { s' with heap := h3 } := J.landed nb fl3.1 (up.trans up3) os ag
    obtain ⟨oe3, vs3, he3, hz3, hd3⟩ := fl3.there
    have nfr : a ∉ frs (X.env :: X.outer) := fun hm => by
      obtain ⟨_, o', e', hnf⟩ := fl3.2.2.1.mem hm
      rw [he3] at e'
      cases e'
      exact hnf _ hd3
    have nL : a ≠ X.env.locals := fun z => nfr (List.mem_filterMap.mpr ⟨X.env, List.mem_cons_self, by rw [hf, z]⟩)
    have nF : a ∉ X.fs := fun hm => by
      obtain ⟨e, he, q⟩ := List.mem_filterMap.mp hm
      exact nfr (List.mem_filterMap.mpr ⟨e, List.mem_cons_of_mem _ he, q⟩)
    have S3 := J3.suite he3 hd3 na nL nF
    have go : ∀ {hds' : List ExceptHandler} {l' : List HCl}, HdsA X n hds' l' → wMas X.K i Wout D l' cls d σ' H' → wpAny (model X.prog X.w) X.A (handleBy (.ref a) X.env hds') (SP X pins D) X.xe { s' with heap := h3 } := by
      intro hds' l' hk
      induction hk with
      | nil =>
        intro w
        refine wpAny_handleBy_nil ?_
        obtain ⟨k1, k2, k3, oe, vs, T, oT, ts', he, hz, hd, h1, hr⟩ := id fl3
        unfold PySem.passOn
        refine wpAny_bind (wpAny_field he hd h1 ?_)
        rw [if_neg (show ¬ ((Value.ref T == Value.none) = true) from by simp)]
        have fin : wpAny (model X.prog X.w) X.A (setFlight (.ref a) X.env.frame) (fun _ s4 => wpAny (model X.prog X.w) X.A (throw (.ref a) : Sem Flow) (SP X pins D) X.xe s4) X.xe { s' with heap := h3 } := by
          rw [hf]
          refine HandSPX.setFlight_upZ fl3 fun h4 hh4 up4 => wpAny_throw (tk _ _ ?_)
          exact ⟨a, B, sI, pins, σ', H', cls, d, rfl, J, nb, (up.trans up3).trans up4, .inr (.inr (by rw [hs]; exact hh4)), na, os, ag, w⟩
        first
          | exact wpAny_bind (wpAny_pure (wpAny_bind fin))
          | exact wpAny_bind fin
      | @cons x c ts b₀ suite np pos' hds2 l2 hc hsu r ih =>
        intro w
        obtain ⟨b, hb1, hyes, hno⟩ := w
        refine wpAny_handleBy_cons (codeAny_handlers_test ?_) (by intro q; cases q)
        have LT : PySem.W.Looks (model X.prog X.w) h3 (typeOf (.ref a)) cls := fun A Q E s k q => wpAny_typeOf_ref (k _ _ he3) (by rw [hz3.1]; exact q)
        have LM := PySem.W.exm_one (M := model X.prog X.w) (J3.kIn) LT hb1
        have test : ∀ {Q : Value → Shared → Prop} {E : Value → Shared → Prop}, Q c { s' with heap := h3 } → wpAny (model X.prog X.w) (X.A.mark (some (.ref a))) (eval (.Name x np) X.env) Q E { s' with heap := h3 } := fun {Q E} q => by
          obtain ⟨hg, hdbg, hm | ⟨hm, hv, hnn⟩⟩ := hc
          · exact ld_glob (X := X.suite a ((a, oe3) :: (X.pn ++ pins))) S3 hg hm q hdbg
          · exact ld_blt (X := X.suite a ((a, oe3) :: (X.pn ++ pins))) S3 hg hm hv q hnn hdbg
        refine test (LM.here ?_)
        cases b with
        | true =>
          refine codeAny_handlers_suite_as ?_
          refine HandSPX.lands_againZ fl3 fun h4 fl4 up4 => ?_
          have J4 : L2.Inv X pins σ' H' { s' with heap := h4 } := J.landed nb fl4.1 ((up.trans up3).trans up4) os ag
          obtain ⟨oe4, vs4, he4, hz4, hd4⟩ := fl4.there
          have S4 := J4.suite he4 hd4 na nL nF
          refine store_ok (X := X.suite a ((a, oe4) :: (X.pn ++ pins))) (v := .ref a) S4 hN hi (.inl hln) rfl (fun s5 S5 => ?_) (.inr hln)
          refine wpAny_mono ((hsu a oe4 cls d (X.pn ++ pins) hz4 ⟨_, hd4⟩).run [] s5 _ H' _ S5 (hyes rfl a na)) (fun f s6 hsp => ?_) (fun _ _ z => False.elim z)
          have last : ∀ {σ6 : L2.St} {H6 : Hp} {Q : Shared → Prop}, L2.Inv (X.suite a ((a, oe4) :: (X.pn ++ pins))) [] σ6 H6 s6 → (∀ s7, L2.Inv X pins (σ6.set i none) H6 s7 → Q s7) →
              wpAny (model X.prog X.w) X.A (do bindName X.env n .none; unbindBehindTheSuite X.env n pos') (fun _ s7 => Q s7) X.xe s6 := fun {σ6 H6 Q} S6 hq => gone_ok (S6.unsuite ok) hN hi hln hq
          cases f with
          | next =>
            obtain ⟨σ6, H6, S6, q6⟩ := hsp
            exact last S6 fun s7 J7 => ⟨_, _, J7, q6⟩
          | brk =>
            obtain ⟨σ6, H6, S6, q6⟩ := hsp
            exact last S6 fun s7 J7 => ⟨_, _, J7, q6⟩
          | cont =>
            obtain ⟨σ6, H6, S6, q6⟩ := hsp
            exact last S6 fun s7 J7 => ⟨_, _, J7, q6⟩
          | ret u =>
            obtain ⟨v6, σ6, H6, S6, r6, q6⟩ := hsp
            exact last S6 fun s7 J7 => ⟨_, _, _, J7, r6, q6⟩
        | false =>
          show wpAny _ X.A (handleBy (.ref a) X.env hds2) _ _ _
          exact ih (hno rfl)
    exact go hh w
  · cases f with
    | next =>
      obtain ⟨σ', H', J', q⟩ := hsp
      exact wpAny_execs_nil ⟨σ', H', J'.ofTry ok, q⟩
    | brk =>
      obtain ⟨σ', H', J', q⟩ := hsp
      exact ⟨σ', H', J'.ofTry ok, q⟩
    | cont =>
      obtain ⟨σ', H', J', q⟩ := hsp
      exact ⟨σ', H', J'.ofTry ok, q⟩
    | ret u =>
      obtain ⟨v, σ', H', J', r, q⟩ := hsp
      exact ⟨v, σ', H', J'.ofTry ok, r, q⟩
end

/-! ## the errors of the text -/
/-- isinstance(e, c), e the error that the suite holds, d its dict -/
def rIsD (K : PySem.W.Frag) (C a d : Addr) : List V → Hp → VK → Prop := fun xs H Q => ∃ (c : V) (cv : Value) (b : Bool) (fs : List (Str × V)), xs = [.ref a, c] ∧ (∀ u, RelV c u → u = cv) ∧ PySem.W.kitOne K (.ref C) cv = some b ∧ H d = some (.xd fs) ∧ Q (.bl b) H
theorem call_isD {X : Cx} {a C d : Addr} {oe : Obj} {pn : List (Addr × Obj)} (T : ExcC X.K C) (hz : Zc (.ref C) (some d) oe) (hf : ∃ vs, oe.data = .fields vs) : CallR (X.suite a ((a, oe) :: pn)) (.builtin "isinstance") (rIsD X.K C a d) := by
  intro pins s σ H xs us Q I r h
  obtain ⟨c, cv, b, fs, rfl, hcv, e, hd, q⟩ := h
  cases r with
  | cons rx rr =>
    cases rr with
    | cons rt rr =>
      cases rr
      cases rx
      have ec := hcv _ rt
      subst ec
      obtain ⟨hget, _⟩ := I.pin (a, oe) (List.mem_append.mpr (.inl List.mem_cons_self))
      obtain ⟨vs, hv⟩ := hf
      have hx : ObjOk X.prog X.w H s.heap d (.xd fs) := I.hok d _ hd
      obtain ⟨mA, hns, _⟩ := hx
      obtain ⟨od, ho, _⟩ := lookIn_ns hns
      have J : PySem.W.InstAt s.heap a oe C (some od) := ⟨hget, hz.1, by unfold PySem.W.notCls; rw [hv] <;> rfl, by rw [hz.2]; exact ho⟩
      obtain ⟨cd, hcd, _⟩ := PySem.W.any_some T.hd
      exact PySem.W.kia_one (PySem.W.kitx_exc (by rw [hcd]; rfl) T.hg T.hk T.hs T.ha T.hn T.ht T.hm) I.kIn J e (fun z => nomatch z) fun tk => ⟨.bl b, H, I.kept (t' := tk) fun _ _ z => z, rfl, q⟩
/-- __init__(self, value): self.value = value -/
def spIni (K : PySem.W.Frag) : Sp := fun vs H Q _ => ∃ (a C : Addr) (v : V), vs = [.ref a, v] ∧ OexC K C ∧ PySem.W.findIn K (.ref C) "value" = some none ∧ H a = some (exo a C none) ∧ ∀ dx, H dx = none → dx ≠ a → Q .non (upd (upd H dx (exd dx [("value", v)])) a (exo a C (some dx)))
/-- what stands written of the errors' __init__ at fI -/
structure IniOk (Ω : Wd) (fI : Addr) : Prop where
  ex : ∃ (qual : Str) (params : Arguments) (sc : Scope) (dV kV doc pm cdv ct oc : Value) (an od : Option Addr) (osl : Array (Option Value)) (p1 p2 p3 p4 : Pos),
    Ω.K.lookup fI = some ⟨oc, od, .func (PySem.W.fnOf "__init__" qual params [.Assign [.Attribute (.Name "self" p1) "value" p2] (.Name "value" p3) p4] sc dV kV doc pm an cdv ct), osl⟩ ∧ PySem.W.codeIn Ω.K cdv qual = true ∧ FnScope ["self", "value"] ["self", "value"] sc ∧
    Binds Ω.K (PySem.W.fnOf "__init__" qual params [.Assign [.Attribute (.Name "self" p1) "value" p2] (.Name "value" p3) p4] sc dV kV doc pm an cdv ct) ["self", "value"] []
/-- what stands written of the error c -/
structure ErrOk (Ω : Wd) (c : Nat) : Prop where
  mg : Ω.mg (gname Ω.Γ.cls c) = some (.ref (Ω.ca c))
  oex : OexC Ω.K (Ω.ca c)
  val : PySem.W.findIn Ω.K (.ref (Ω.ca c)) "value" = some none
  ini : ∃ fI, PySem.W.findIn Ω.K (.ref (Ω.ca c)) "__init__" = some (some (.ref fI)) ∧ PySem.W.typeIn Ω.K (.ref fI) = some (.type "function") ∧ IniOk Ω fI
section
variable {Ω : Wd}
theorem ini_ok {fI : Addr} (h : IniOk Ω fI) : ∃ fd, FnOk Ω.P Ω.w Ω.K Ω.mg Ω.base C8.CX0 1 fI fd ["self", "value"] (spIni Ω.K) ∧ Binds Ω.K fd ["self", "value"] [] := by
  obtain ⟨qual, params, sc, dV, kV, doc, pm, cdv, ct, oc, an, od, osl, p1, p2, p3, p4, lk, hcd, S, hb⟩ := h.ex
  refine ⟨_, fn_of (k := 0) lk hcd S (fun vs H Q E ⟨a, C, v, e, _⟩ => by rw [e]; rfl) (fun A outer s H vs Q E hr ⟨a, C, v, ev, T, hno, ha, q⟩ => ?_), hb⟩
  subst ev
  have vis : ∀ x ∈ (["self", "value"] : List Str), Vis sc x := fun x hx => by
    rcases S.par x hx with z | z
    · exact .inl z
    · exact .inr (.inl z)
  refine ⟨_, pss_one (ps_ost (pe_var (i := 0) rfl (vis _ (by simp)) (by decide) (by decide)) (pe_var (i := 1) rfl (vis _ (by simp)) (by decide) (by decide))), ?_⟩
  exact ⟨v, rfl, .ref a, rfl, a, C, rfl, T, hno, .inl ⟨ha, fun dx n ne => q dx n ne⟩⟩
theorem rai_ok (h : ∀ c, c < Ω.Γ.cls.length → ErrOk Ω c) (lv : Nat) : RaiOk Ω lv := by
  intro N sc X g hr2 c q p e te hc hgl he
  obtain ⟨mg, oex, val, fI, iC, tI, io⟩ := h c hc
  obtain ⟨fd, F, hb⟩ := ini_ok io
  obtain ⟨gl, db⟩ := g.gl hgl
  have he2 : PE X (up Ω.Γ N e) (fun σ H Q2 => ∃ Q1 : VK, te σ H Q1 ∧ ∀ v H1, Q1 v H1 → Q2 v H1) := ⟨fun pins s σ H Q I ⟨Q1, h1, h2⟩ => thn (he.run pins s σ H Q1 I h1) fun u s1 ⟨v, H1, I1, r, q⟩ => ⟨v, H1, I1, r, h2 v H1 q⟩⟩
  have z := pmk_oex (X := X) (CX := C8.CX0) (x := gname Ω.Γ.cls c) (C := Ω.ca c) (fI := fI) (k := 1) (fd := fd) (ps := ["self", "value"]) (sp := spIni Ω.K) (ds := []) (dvs := []) (p := q) (pos := p) (by rw [g.K]; exact oex) (by rw [g.K]; exact iC) (by rw [g.K]; exact tI)
    (by rw [g.P, g.w, g.K, g.mg, g.base]; exact F) hr2 (by rw [g.K]; exact hb) .nil (fun _ _ _ _ _ _ _ z => (show False from z).elim) gl (by rw [g.mg]; exact mg) (pa_cons he2 pa_nil (star_up _ _ _)) db (star_up _ _ _) rfl
  intro pins s σ H Q I hq
  refine z pins s σ H Q I ⟨_, hq, fun v H1 hv => ⟨by show 1 ≤ 1000; decide, fun a ha => ⟨a, Ω.ca c, v, rfl, oex, val, upd_same, fun dx n ne => ⟨rfl, dx, [("value", v)], upd_same, by rw [upd_ne ne, upd_same], ?_, ?_⟩⟩⟩⟩
  · rw [upd_ne ne] at n
    exact n
  · have n' : H1 dx = none := by rw [upd_ne ne] at n; exact n
    have e : upd (L2.del (upd (upd (upd H1 a (exo a (Ω.ca c) none)) dx (exd dx [("value", v)])) a (exo a (Ω.ca c) (some dx))) a) dx (.xd [("value", v)]) = upd H1 dx (.xd [("value", v)]) := by
      funext b
      by_cases hb : b = dx
      · rw [hb, upd_same, upd_same]
      · rw [upd_ne hb, upd_ne hb]
        by_cases ha' : b = a
        · rw [ha', del_same, ha]
        · rw [del_ne ha', upd_ne ha', upd_ne hb, upd_ne ha']
    rw [e]
    exact hv dx n'
end
end Mn

-- Mn22
set_option Elab.async false
set_option linter.all false
set_option maxRecDepth 100000
set_option maxHeartbeats 2000000
set_option autoImplicit false
namespace Mn
open PySem PySem.Spec L2 PyProof.Rows LamX

/-! ## the def that tells of an action -/
abbrev nH : Str := "_law_told_here"
abbrev nE : Str := "e"
abbrev nA : Str := "_law_act"
abbrev tN : List Str := [nA, nH, nE]
/-- a clause: the error, its tag, its places -/
structure Hd where
  c : Nat
  tag : Str
  P : Nat → Pos
section
variable (Γ : Gam)
def Hd.up (h : Hd) : ExceptHandler :=
  .ExceptHandler (some (.Name (gname Γ.cls h.c) (h.P 0))) (some nE) [.Assign [.Name nH (h.P 1)] (.List [.Constant (.str h.tag) 0 (h.P 2), .Attribute (.Name nE (h.P 3)) "value" (h.P 4),
    .BoolOp .And [.Call (.Name "isinstance" (h.P 5)) [.Name nE (h.P 6), .Name "HeldError" (h.P 7)] [] (h.P 8), .Call (.Name "isinstance" (h.P 9)) [.Name nE (h.P 10), .Name "ValueError" (h.P 11)] [] (h.P 12)] (h.P 13)] (h.P 14)) (h.P 15)] (h.P 16)
def toldB (h0 : Hd) (hs : List Hd) (P : Nat → Pos) : List Stmt :=
  [.Assign [.Name nH (P 0)] (.List [.Constant (.str "other") 0 (P 1)] (P 2)) (P 3),
   .Try [.Assign [.Name nH (P 4)] (.List [.Constant (.str "done") 0 (P 5), .Call (.Name nA (P 6)) [] [] (P 7)] (P 8)) (P 9)] (h0.up Γ :: hs.map (·.up Γ)) [] [] (P 10),
   .Return (some (.Call (.Name "repr" (P 11)) [.Name nH (P 12)] [] (P 13))) (P 14)]
end
def tagL (hs : List Hd) : List (Nat × Str) := hs.map fun h => (h.c, h.tag)
/-- what it makes of the action's reading -/
def TTell (K : PySem.W.Frag) (ca : Nat → Addr) (tags : List (Nat × Str)) : (XK → Hp → VK → Prop) → Hp → VK → Prop := fun tl H Q => ∀ p0, H p0 = none →
  tl (fun cls d H1 => ∃ c tag dd v, tags.lookup c = some tag ∧ cls = .ref (ca c) ∧ d = some dd ∧ H1 dd = some (.xd [("value", v)]) ∧ ∀ p1, H1 p1 = none → rShow K [.ref p1] (upd H1 p1 (.lst [.str tag, v, .bl true])) Q) (upd H p0 (.lst [.str "other"]))
    (fun v H1 => ∀ p1, H1 p1 = none → rShow K [.ref p1] (upd H1 p1 (.lst [.str "done", v])) Q)
/-- what stands written -/
structure TldOk (Ω : Wd) (g hld : Addr) (h0 : Hd) (hs : List Hd) (P : Nat → Pos) : Prop where
  ex : ∃ (params : Arguments) (sg : Scope) (dV kV doc pm cdv ct oc : Value) (an od : Option Addr) (osl : Array (Option Value)),
    Ω.K.lookup g = some ⟨oc, od, .func (PySem.W.fnOf Ω.Γ.told Ω.Γ.told params (toldB Ω.Γ h0 hs P) sg dV kV doc pm an cdv ct), osl⟩ ∧ PySem.W.codeIn Ω.K cdv Ω.Γ.told = true ∧ L2.Binds Ω.K (PySem.W.fnOf Ω.Γ.told Ω.Γ.told params (toldB Ω.Γ h0 hs P) sg dV kV doc pm an cdv ct) [nA] [] ∧
    FnScope tN [nA] sg ∧ sg.names.lookup nH = some .local ∧ sg.names.lookup nE = some .local ∧ Vis sg nA ∧
    (∀ h ∈ h0 :: hs, isGl sg (gname Ω.Γ.cls h.c) = true) ∧ isGl sg "isinstance" = true ∧ isGl sg "HeldError" = true ∧ isGl sg "ValueError" = true ∧ isGl sg "repr" = true
  mgt : Ω.mg Ω.Γ.told = some (.ref g)
  kp : PySem.W.keepIn Ω.K (.ref g) = true
  mgc : ∀ h ∈ h0 :: hs, Ω.mg (gname Ω.Γ.cls h.c) = some (.ref (Ω.ca h.c))
  xf : ∀ h ∈ h0 :: hs, XfC Ω.K (Ω.ca h.c) ∧ ExcC Ω.K (Ω.ca h.c) ∧ PySem.W.findIn Ω.K (.ref (Ω.ca h.c)) "value" = some none ∧ PySem.W.kitOne Ω.K (.ref (Ω.ca h.c)) (.ref hld) = some true ∧ PySem.W.kitOne Ω.K (.ref (Ω.ca h.c)) (.type "ValueError") = some true
  em : ∀ h ∈ h0 :: hs, ∀ h' ∈ h0 :: hs, PySem.W.exmOne Ω.K (.ref (Ω.ca h.c)) (.ref (Ω.ca h'.c)) = some (decide (h.c = h'.c))
  mgi : Ω.mg "isinstance" = none
  mgr : Ω.mg "repr" = none
  mgv : Ω.mg "ValueError" = none
  mgh : Ω.mg "HeldError" = some (.ref hld)
  sys : ∃ o, Ω.base.get? sysModules = some o ∧ o.cls ≠ .type "list"
/-- isinstance(e, c) in a suite -/
def tIsD (K : PySem.W.Frag) (a : Addr) (cls : Value) (d : Option Addr) (C : Addr) (i : Nat) (c : V) : TE := fun σ H Q => cls = .ref C ∧ ∃ dd, d = some dd ∧ tCB (rIsD K C a dd) (tCons (tVar i) (tCons (tC c) tNil)) σ H Q
/-- what a clause's suite asks -/
def tSuite (K : PySem.W.Frag) (a : Addr) (cls : Value) (d : Option Addr) (C hld : Addr) (tag : Str) : TS :=
  tAsg (tLst (tCons (tC (.str tag)) (tCons (tXf a cls d C "value" (tVar 2)) (tCons (tAndV (tIsD K a cls d C 2 (.ref hld)) (tIsD K a cls d C 2 (.ty "ValueError"))) tNil)))) (gName 1)
section
variable {Ω : Wd} {N : List Str} {sc : Sk} {lv : Nat} {X : Cx} {g hld : Addr} {h0 : Hd} {hs : List Hd} {P : Nat → Pos}
theorem gl_of {Y : Cx} {sg : Scope} {x : Str} (hs : Y.env.scope = sg) (h : isGl sg x = true) : Gl Y x ∧ (x == ("__debug__" : Str)) = false := by
  unfold isGl at h
  simp only [Bool.and_eq_true, decide_eq_true_eq, Bool.not_eq_true'] at h
  exact ⟨by show Y.env.scope.names.lookup x = _; rw [hs]; exact h.1, h.2⟩
theorem suite_ok {Y : Cx} {sg : Scope} {h : Hd} {a : Addr} {oe : Obj} {cls : Value} {d : Option Addr} {pn : List (Addr × Obj)} (eN : Y.N = tN) (es : Y.env.scope = sg) (eK : Y.K = Ω.K) (eM : Y.mg = Ω.mg) (fn : ∀ x, Y.fn x = true)
    (nd : Y.N.Nodup) (l1 : sg.names.lookup nH = some .local) (l2 : sg.names.lookup nE = some .local) (gi : isGl sg "isinstance" = true) (gh : isGl sg "HeldError" = true) (gv : isGl sg "ValueError" = true)
    (mgi : Ω.mg "isinstance" = none) (mgv : Ω.mg "ValueError" = none) (mgh : Ω.mg "HeldError" = some (.ref hld))
    (xf : XfC Ω.K (Ω.ca h.c) ∧ ExcC Ω.K (Ω.ca h.c) ∧ PySem.W.findIn Ω.K (.ref (Ω.ca h.c)) "value" = some none) (hz : Zc cls d oe) (hf : ∃ vs, oe.data = .fields vs) :
    PSs (Y.suite a ((a, oe) :: pn)) [.Assign [.Name nH (h.P 1)] (.List [.Constant (.str h.tag) 0 (h.P 2), .Attribute (.Name nE (h.P 3)) "value" (h.P 4),
      .BoolOp .And [.Call (.Name "isinstance" (h.P 5)) [.Name nE (h.P 6), .Name "HeldError" (h.P 7)] [] (h.P 8), .Call (.Name "isinstance" (h.P 9)) [.Name nE (h.P 10), .Name "ValueError" (h.P 11)] [] (h.P 12)] (h.P 13)] (h.P 14)) (h.P 15)]
      (tSuite Ω.K a cls d (Ω.ca h.c) hld h.tag) := by
  have eV : ∀ {p : Pos}, PE (Y.suite a ((a, oe) :: pn)) (.Name nE p) (tVar 2) := fun {p} => pe_var (by show Y.N[2]? = _; rw [eN]; rfl) (.inl (by show Y.env.scope.names.lookup _ = _; rw [es]; exact l2)) (by decide) (by decide)
  have isd : ∀ {x : Str} {c : V} {p1 p2 p3 p4 : Pos}, PE (Y.suite a ((a, oe) :: pn)) (.Name x p3) (tC c) → PE (Y.suite a ((a, oe) :: pn)) (.Call (.Name "isinstance" p1) [.Name nE p2, .Name x p3] [] p4) (tIsD Ω.K a cls d (Ω.ca h.c) 2 c) := fun {x c p1 p2 p3 p4} hc => by
    refine ⟨fun pins s σ H Q I ⟨e1, dd, e2, q⟩ => ?_⟩
    subst e1
    subst e2
    obtain ⟨gl, db⟩ := gl_of (Y := Y.suite a ((a, oe) :: pn)) es gi
    have z := pe_callB (X := Y.suite a ((a, oe) :: pn)) (p := p1) (pos := p4) (call_isD (X := Y) (by rw [eK]; exact xf.2.1) hz hf) gl (by show Y.mg _ = _; rw [eM]; exact mgi) (by decide +kernel) (pa_cons (eV (p := p2)) (pa_cons hc pa_nil rfl) rfl) (by decide) db rfl rfl
    rw [eK] at z
    exact z.run pins s σ H Q I q
  have held : PE (Y.suite a ((a, oe) :: pn)) (.Name "HeldError" (h.P 7)) (tC (.ref hld)) := by
    obtain ⟨gl, db⟩ := gl_of (Y := Y.suite a ((a, oe) :: pn)) es gh
    exact pe_glob gl (by show Y.mg _ = _; rw [eM]; exact mgh) rfl db
  have ver : PE (Y.suite a ((a, oe) :: pn)) (.Name "ValueError" (h.P 11)) (tC (.ty "ValueError")) := by
    obtain ⟨gl, db⟩ := gl_of (Y := Y.suite a ((a, oe) :: pn)) es gv
    exact pe_bltn gl (by show Y.mg _ = _; rw [eM]; exact mgv) (by decide +kernel) rfl (by decide) db
  have xv : PE (Y.suite a ((a, oe) :: pn)) (.Attribute (.Name nE (h.P 3)) "value" (h.P 4)) (tXf a cls d (Ω.ca h.c) "value" (tVar 2)) := pe_xf (X := Y) (by rw [eK]; exact xf.1) (by rw [eK]; exact xf.2.2) hz hf eV
  exact pss_one (ps_set (i := 1) nd (by show Y.N[1]? = _; rw [eN]; rfl) (.inl (by show Y.env.scope.names.lookup _ = _; rw [es]; exact l1)) (pe_lst (pa_cons pe_str (pa_cons xv (pa_cons (pe_and (isd held) (pe_one (isd ver))) pa_nil)))) rfl (.inl (fn _)))
theorem lookup_cons {c c' : Nat} {t t' : Str} {l : List (Nat × Str)} (h : ((c', t') :: l).lookup c = some t) : (c = c' ∧ t = t') ∨ (c ≠ c' ∧ l.lookup c = some t) := by
  rw [List.lookup_cons] at h
  by_cases e : c = c'
  · subst e
    simp at h
    exact .inl ⟨rfl, h.symm⟩
  · have : (c == c') = false := by simpa using e
    rw [this] at h
    exact .inr ⟨e, h⟩
theorem wish_ok (T : TldOk Ω g hld h0 hs P) {D : Ends} {Q : VK} {c : Nat} {tag : Str} {dd : Addr} {v : V} {x y z : Option V} {H : Hp} (hD : ∀ (x : Option V) (p : Addr) (H' : Hp), rShow Ω.K [.ref p] H' Q → D.nx [x, some (.ref p), none] H') (hd : H dd = some (.xd [("value", v)]))
    (hq : ∀ p1, H p1 = none → rShow Ω.K [.ref p1] (upd H p1 (.lst [.str tag, v, .bl true])) Q) : ∀ l : List Hd, (∀ h ∈ l, h ∈ h0 :: hs) → (∃ h ∈ h0 :: hs, h.c = c) → (tagL l).lookup c = some tag →
      wMas Ω.K 2 (fun _ _ _ _ => False) D (l.map fun h => (Value.ref (Ω.ca h.c), fun a cls d => tSuite Ω.K a cls d (Ω.ca h.c) hld h.tag)) (.ref (Ω.ca c)) (some dd) [x, y, z] H
  | [], _, _, e => by cases e
  | h :: l, hm, hc, e => by
    have e : ((h.c, h.tag) :: tagL l).lookup c = some tag := e
    have hh := hm h List.mem_cons_self
    obtain ⟨h1, hm1, rfl⟩ := hc
    have em := T.em h1 hm1 h hh
    refine ⟨_, em, fun hb a ha => ?_, fun hb => ?_⟩
    · have e1 : h1.c = h.c := of_decide_eq_true hb
      have et : tag = h.tag := by
        rcases lookup_cons e with ⟨_, z⟩ | ⟨z, _⟩
        · exact z
        · exact absurd e1 z
      rw [e1]
      obtain ⟨_, _, _, k1, k2⟩ := T.xf h hh
      refine ⟨.ref a, rfl, rfl, rfl, dd, [("value", v)], v, rfl, hd, rfl, ?_⟩
      refine ⟨rfl, dd, rfl, .ref a, rfl, .ref hld, .ref hld, true, _, rfl, fun u r => r, k1, hd, true, rfl, ?_⟩
      rw [if_pos rfl]
      refine ⟨rfl, dd, rfl, .ref a, rfl, .ty "ValueError", .type "ValueError", true, _, rfl, fun u r => r, k2, hd, ?_⟩
      refine ⟨by show 3 ≤ sizeLine; decide, fun p1 hp1 => ?_⟩
      have := hq p1 hp1
      rw [et] at this
      exact hD x p1 _ this
    · have e1 : h1.c ≠ h.c := of_decide_eq_false hb
      rcases lookup_cons e with ⟨z, _⟩ | ⟨_, z⟩
      · exact absurd z e1
      · exact wish_ok T hD hd hq l (fun h hx => hm h (List.mem_cons_of_mem _ hx)) ⟨h1, hm1, rfl⟩ z
theorem tells (T : TldOk Ω g hld h0 hs P) (gd : Good Ω N sc lv X) (hr : Room 1 X.A) {params : Arguments} {sg : Scope} {cdv : Value} (S : FnScope tN [nA] sg) (l1 : sg.names.lookup nH = some .local) (l2 : sg.names.lookup nE = some .local) (va : Vis sg nA)
    (gc : ∀ h ∈ h0 :: hs, isGl sg (gname Ω.Γ.cls h.c) = true) (gi : isGl sg "isinstance" = true) (gh : isGl sg "HeldError" = true) (gv : isGl sg "ValueError" = true) (gr : isGl sg "repr" = true) (q : Str) :
    GivesG X tN Ω.Γ.told sg g cdv (toldB Ω.Γ h0 hs P) nA q (TTell Ω.K Ω.ca (tagL (h0 :: hs))) := by
  intro f c' s H Q tl act hc h
  generalize eY : (cxOf C8.CX0 X.prog X.w X.K X.mg X.base tN Ω.Γ.told sg g cdv X.A X.stack s H C8.E0).nox = Y
  have eN : Y.N = tN := by rw [← eY]; rfl
  have es : Y.env.scope = sg := by rw [← eY]; rfl
  have eK : Y.K = Ω.K := by rw [← eY]; exact gd.K
  have eM : Y.mg = Ω.mg := by rw [← eY]; exact gd.mg
  have fn : ∀ x, Y.fn x = true := fun x => by rw [← eY]; rfl
  have nd : Y.N.Nodup := by rw [eN]; exact S.nd
  have hcm : Y.calm = true := by rw [← eY]; rfl
  have hst : Y.stack = Y.env :: Y.outer := by rw [← eY]; rfl
  have hfr : Y.env.frame = some Y.env.locals := by rw [← eY]; rfl
  have a0 : A0 Y := by
    rw [← eY]
    exact ⟨gd.grd, hr.deeper _⟩
  have sy : SysOk Y := by
    rw [← eY]
    show ∃ o, X.base.get? sysModules = some o ∧ _
    rw [gd.base]
    exact T.sys
  have here : ∀ {Z : Cx} {p : Pos}, Z.N = Y.N → Z.env = Y.env → PE Z (.Name nH p) (tVar 1) := fun {Z p} e1 e2 => pe_var (by rw [e1, eN]; rfl) (.inl (by rw [e2, es]; exact l1)) (by decide) (by decide)
  have setH : ∀ {Z : Cx} {e : Expr} {te : TE} {p1 p2 : Pos}, Z.N = Y.N → Z.env = Y.env → Z.fn = Y.fn → PE Z e te → swapsWith e (some (.Name nH p1)) p2.line Z.env = pure false → PS Z (.Assign [.Name nH p1] e p2) (tAsg te (gName 1)) := fun {Z e te p1 p2} e1 e2 e3 he hs =>
    ps_set (by rw [e1]; exact nd) (by rw [e1, eN]; rfl) (.inl (by rw [e2, es]; exact l1)) he hs (.inl (by rw [e3]; exact fn _))
  obtain ⟨glr, dbr⟩ := gl_of (Y := Y) es gr
  have rp : PE Y (.Call (.Name "repr" (P 11)) [.Name nH (P 12)] [] (P 13)) (tCB (rShow Ω.K) (tCons (tVar 1) tNil)) := by
    have z := pe_callB (X := Y) (p := P 11) (pos := P 13) (cr_show a0 sy) glr (by rw [eM]; exact T.mgr) (by decide +kernel) (pa_cons (here (p := P 12) rfl rfl) pa_nil rfl) (by decide) dbr rfl rfl
    rw [eK] at z
    exact z
  have hds : HdsA Y nE (h0.up Ω.Γ :: hs.map (·.up Ω.Γ)) ((h0 :: hs).map fun h => (Value.ref (Ω.ca h.c), fun a cls d => tSuite Ω.K a cls d (Ω.ca h.c) hld h.tag)) := by
    have gen : ∀ l : List Hd, (∀ h ∈ l, h ∈ h0 :: hs) → HdsA Y nE (l.map (·.up Ω.Γ)) (l.map fun h => (Value.ref (Ω.ca h.c), fun a cls d => tSuite Ω.K a cls d (Ω.ca h.c) hld h.tag)) := by
      intro l
      induction l with
      | nil => intro _; exact .nil
      | cons h l ih =>
        intro hm
        have hh := hm h List.mem_cons_self
        obtain ⟨gl, db⟩ := gl_of (Y := Y) es (gc h hh)
        have x5 := T.xf h hh
        exact .cons ⟨gl, db, .inl (by rw [eM]; exact T.mgc h hh)⟩ (fun a oe cls d pn hz hf => suite_ok eN es eK eM fn nd l1 l2 gi gh gv T.mgi T.mgv T.mgh ⟨x5.1, x5.2.1, x5.2.2.1⟩ hz hf) (ih fun h hx => hm h (List.mem_cons_of_mem _ hx))
    exact gen (h0 :: hs) fun h hx => hx
  have tr := ps_try_mas (X := Y) (i := 2) (n := nE) (pos := P 10) (Wout := fun _ _ _ _ => False)
    (body := [.Assign [.Name nH (P 4)] (.List [.Constant (.str "done") 0 (P 5), .Call (.Name nA (P 6)) [] [] (P 7)] (P 8)) (P 9)])
    (tb := fun W => tAsg (tLst (tCons (tC (.str "done")) (tCons (fun σZ HZ Q' => ∃ (E : XK) (Q1 : VK), (∀ cls d (σ' : L2.St) H', σ'.length = 3 → E cls d H' → W cls d σ' H') ∧ (σZ[0]? = some (some (.ref f)) ∧ HZ c' = some (CodeO c' q) ∧ tl E HZ Q1) ∧ ∀ v H', Q1 v H' → Q' v H') tNil))) (gName 1))
    hst hfr nd (by rw [eN]; rfl) (by show Y.env.scope.names.lookup _ = _; rw [es]; exact l2) takes0 (fun W pn xe tk _ => by
      refine pss_one (setH rfl rfl rfl (pe_lst (pa_cons pe_str (pa_cons ?_ pa_nil rfl))) rfl)
      refine ⟨fun pins s' σ' H' Q' I ⟨E, Q1, hW, hq, hQ⟩ => ?_⟩
      subst eY
      exact thn ((act W pn xe E (P 6) (P 7) tk hW).run pins s' σ' H' Q1 I hq) fun u s1 ⟨v, H1, I1, r, q⟩ => ⟨v, H1, I1, r, hQ v H1 q⟩) hds
  refine ⟨_, pss_cons (setH rfl rfl rfl (pe_lst (pa_cons pe_str pa_nil)) rfl) (pss_cons tr (pss_one (ps_ret rp))), ?_⟩
  refine ⟨by show 1 ≤ sizeLine; decide, fun p0 hp0 => ?_⟩
  have st : (L2.start tN [V.ref f]).set 1 (some (.ref p0)) = [some (.ref f), some (.ref p0), none] := rfl
  show (_ : Prop)
  refine ⟨_, _, fun cls d σ' H' hl hE => ?_, ⟨rfl, ?_, h p0 hp0⟩, fun v H1 hq => ⟨by show 2 ≤ sizeLine; decide, fun p1 hp1 => ?_⟩⟩
  · obtain ⟨c, tag, dd, v, e1, rfl, rfl, hd, hq⟩ := hE
    match σ', hl with
    | [x, y, z], _ =>
      rw [eK]
      have mem : ∀ l : List Hd, (tagL l).lookup c = some tag → ∃ h ∈ l, h.c = c := by
        intro l
        induction l with
        | nil => intro e; cases e
        | cons h l ih =>
          intro e
          have e : ((h.c, h.tag) :: tagL l).lookup c = some tag := e
          rcases lookup_cons e with ⟨z, _⟩ | ⟨_, z⟩
          · exact ⟨h, List.mem_cons_self, z.symm⟩
          · obtain ⟨h', m, e'⟩ := ih z
            exact ⟨h', List.mem_cons_of_mem _ m, e'⟩
      refine wish_ok (Q := Q) T ?hD hd hq (h0 :: hs) (fun h hx => hx) (mem _ e1) e1
      intro x p H' hr
      exact ⟨_, rfl, hr⟩
  · rw [upd_ne (ne_of_none hc hp0)]
    exact hc
  · exact ⟨_, rfl, hq p1 hp1⟩
end
end Mn

-- Mn23
set_option Elab.async false
set_option linter.all false
set_option maxRecDepth 100000
set_option maxHeartbeats 2000000
set_option autoImplicit false
namespace Mn
open PySem PySem.Spec L2 PyProof.Rows LamX
theorem noArgs_eq {a : Arguments} (h : isNoArgs a = true) : a = { posonlyargs := [], args := [], vararg := none, kwonlyargs := [], kw_defaults := [], kwarg := none, defaults := [] } := by
  unfold isNoArgs at h
  simp only [Bool.and_eq_true, List.isEmpty_iff, Option.isNone_iff_eq_none] at h
  obtain ⟨⟨⟨⟨⟨⟨h1, h2⟩, h3⟩, h4⟩, h5⟩, h6⟩, h7⟩ := h
  cases a
  simp only at h1 h2 h3 h4 h5 h6 h7
  subst h1 h2 h3 h4 h5 h6 h7
  rfl
section
variable {Ω : Wd} {g hld : Addr} {h0 : Hd} {hs : List Hd} {P : Nat → Pos}
abbrev tspT (Ω : Wd) (h0 : Hd) (hs : List Hd) : (XK → TE) → TE := tLamG Ω.T (TTell Ω.K Ω.ca (tagL (h0 :: hs)))
theorem tell_ok (T : TldOk Ω g hld h0 hs P) (N : List Str) (lv : Nat) (hdb : (Ω.Γ.told == ("__debug__" : Str)) = false) : TellOk Ω N lv (tspT Ω h0 hs) := by
  intro sc X gd hlm ar body scope t q lp p hgl hL har hbody
  obtain ⟨hr, c, P', hcode, TB, hmT, hu⟩ := gd.lam hlm
  obtain ⟨params, sg, dV, kV, doc, pm, cdv, ct, oc, an, od, osl, lk, hcg, hb, S, l1, l2, va, gc, gi, gh, gv, gr⟩ := T.ex
  obtain rfl := noArgs_eq har
  obtain ⟨gl, db⟩ := gd.gl hgl
  exact pe_lamG (k := lv + 2) (T := Ω.T) (TT := TTell Ω.K Ω.ca (tagL (h0 :: hs))) (x := Ω.Γ.told) (a := nA) (g := g) (c := c) (P := P') (Ng := tN) gl (by rw [gd.mg]; exact T.mgt) (by rw [gd.K]; exact T.kp) (by rw [gd.K]; exact lk) (by rw [gd.K]; exact hcg) (by rw [gd.K]; exact hb) S rfl va
    (tells (cdv := cdv) (params := params) T gd (hr.mono (by omega)) S l1 l2 va gc gi gh gv gr _) TB hcode hmT hu hr gd.grd hL rfl (fun _ _ _ _ _ => rfl) hbody hdb (by decide) (by decide)
theorem ext_rel {K : PySem.W.Frag} {T : List (Addr × Str)} {δ : List Sl} {σ : L2.St} {G H H1 : Hp} (R : Rel K T δ σ G H) (e : ExtN H H1) (t : Tabs T H1) (l : Lives H H1) : Rel K T δ σ G H1 ∧ GoE δ δ σ G H G H1 := by
  refine ⟨⟨R.len, fun b o q => e b o (R.sub b o q) fun ps z => R.ntb b ps (by rw [q, z]), R.ntb, t, R.val, fun i xs h => ?_, R.sep⟩, ⟨⟨Same.refl G, fun b o q _ n => e b o q n, l, fun b o q => .inl q, fun b h => .inl h⟩, fun i xs h => ⟨xs, h⟩, fun i xs h => h, fun i a h => .inl h.1⟩⟩
  obtain ⟨a, vs, h1, h2, h3, h4⟩ := R.own i xs h
  exact ⟨a, vs, h1, e a _ h2 (fun ps z => by cases z), h3, h4⟩
/-- the wish of what is shown, a new list of three or two things -/
theorem show_new {K : PySem.W.Frag} {T : List (Addr × Str)} {δ : List Sl} {σ : L2.St} {G H : Hp} {vs : List V} {ds : List Mn.D} {x : Mn.D} {p : Addr} {Q : VK} (R : Rel K T δ σ G H) (hp : H p = none) (dn : DenL K G vs ds) (e : shD (.lst ds) = some x)
    (q : ∀ s, x = .str s → Q (.str s) (upd H p (.lst vs))) : rShow K [.ref p] (upd H p (.lst vs)) Q := by
  unfold shD at e
  split at e
  · rename_i c
    cases e
    simp only [Bool.and_eq_true, decide_eq_true_eq] at c
    exact ⟨.ref p, .lst ds, G, rfl, same_new R.sub hp, .inr ⟨p, vs, ds, rfl, rfl, upd_same, dn⟩, c.1.1.1, c.1.1.2, c.1.2, c.2, q _ rfl⟩
  · cases e
theorem shD_str {d x : Mn.D} (e : shD d = some x) : ∃ s, x = .str s := by
  unfold shD at e
  split at e
  · cases e
    exact ⟨_, rfl⟩
  · cases e
theorem tell_td (tags : List (Nat × Str)) (n : Nat) (t : XK → TE) (W : WX) (δ : List Sl) (o o' : EO) (h : ∀ E : XK, SE Ω (t E) (fun c d _ H => E c d H) n δ o) (e : tell (fun c => tags.lookup c) o = some o') : SE Ω (tLamG Ω.T (TTell Ω.K Ω.ca tags) t) W n δ o' := by
  intro σ G H Q hl Rl post
  refine ⟨Rl.tab, fun H1 eN T1 lv p0 hp0 => ?_⟩
  obtain ⟨R1, g1⟩ := ext_rel Rl eN T1 lv
  have R2 := R1.laid (o := .lst [.str "other"]) hp0
  have g2 := g1.trans (GoE.laid (o := .lst [.str "other"]) hp0)
  refine h _ σ G _ _ hl R2 ?_
  cases o with
  | ok r δ1 =>
    unfold tell at e
    dsimp only at e
    split at e
    · rename_i d δ2 ef
      obtain ⟨x, e1, e2⟩ := Option.map_eq_some_iff.mp e
      subst e2
      intro v G3 H3 R3 g3 rv p1 hp1
      obtain ⟨G4, R4, g4, dn, _⟩ := frz_ok R2 g3 R3 rv ef
      refine show_new R4 hp1 (.cons (.str _) (.cons dn .nil)) e1 fun s es => ?_
      subst es
      exact post _ G4 _ (R4.laid hp1) ((g2.trans g4).trans (GoE.laid hp1)) (.str _)
    · cases e
  | exc c d δ1 =>
    unfold tell at e
    dsimp only at e
    split at e
    · rename_i tag et
      obtain ⟨x, e1, e2⟩ := Option.map_eq_some_iff.mp e
      subst e2
      intro v dd G3 H3 R3 g3 hx dn
      refine ⟨c, tag, dd, v, et, rfl, rfl, hx, fun p1 hp1 => ?_⟩
      refine show_new R3 hp1 (.cons (.str _) (.cons dn (.cons (.bl true) .nil))) e1 fun s es => ?_
      subst es
      exact post _ G3 _ (R3.laid hp1) ((g2.trans g3).trans (GoE.laid hp1)) (.str _)
    · cases e
end
end Mn

-- Mn24
set_option Elab.async false
set_option linter.all false
set_option maxRecDepth 100000
set_option maxHeartbeats 2000000
set_option autoImplicit false
namespace Mn
open PySem PySem.Spec L2 PyProof.Rows LamX

/-! ## the law's entry -/
abbrev tab0 : Obj := { cls := .none, data := .fields #[] }
section
variable {P : Program} {w : World} {K : PySem.W.Frag} {mg mb : Str → Option Value} {cs : List (Addr × Addr)} {s₁ : Shared} {a : Addr} {vs : List Value} {ns : List Int}
/-- what is tracked at the entry: the script (unless it stands written), the tables -/
def entH (K : PySem.W.Frag) (cs : List (Addr × Addr)) (a : Addr) (vs : List Value) (ns : List Int) : Hp := fun b =>
  if b = a ∧ K.lookup a = none then some (.frz { cls := .type "list", data := .seq vs.toArray } (.lst (ns.map V.int))) else if b ∈ cs.map (·.2) then some (.tbl #[]) else none
theorem law_env (KX : K.In s₁.heap) (hns : s₁.heap.Ns mainGlobals mg) (hb : s₁.heap.Ns builtinsNs mb) (hbb : ∀ x : Str, x ≠ "__name__" → mb x = bootBuiltins x) (hlim : s₁.heap.NoLimit) (hg : s₁.gens = #[])
    (hT : ∀ p ∈ cs, s₁.heap.get? p.2 = some tab0) (nT : ∀ p ∈ cs, K.lookup p.2 = none) (C : ∀ p ∈ cs, PySem.W.CodeHd s₁.heap p.1 p.2)
    (hbm : ∃ (bm : Addr) (ob : Obj), mg "__builtins__" = some (.ref bm) ∧ bm ≠ builtinsNs ∧ s₁.heap.get? bm = some ob ∧ ob.cls = .type "module" ∧ ob.dict = some builtinsNs ∧ ob.data = .plain)
    (ha : s₁.heap.get? a = some { cls := .type "list", data := .seq vs.toArray }) (hi : IntsAre vs ns) (hl : ns.length ≤ sizeLine) (hsy : ∃ o, s₁.heap.get? sysModules = some o ∧ ∃ es n, o.data = .dict es n) :
    ∃ (base : Heap) (H : Hp), Env0 P w K mg base callerA [] s₁ H ∧ (∀ p ∈ cs, TabB base mg p.1 p.2) ∧ (∀ p ∈ cs, H p.2 = some (.tbl #[])) ∧ SqL K H a (ns.map V.int) ∧ (∃ o, base.get? sysModules = some o ∧ ∃ es n, o.data = .dict es n) ∧
      (∀ b, H b = none ∨ H b = some (.tbl #[]) ∨ ∃ o xs, H b = some (.frz o (.lst xs))) ∧ ∀ (H' : Hp) (s' : Shared), Un (frs []) [] H H' s₁.heap s'.heap → HOk P w H' s'.heap → OldK s₁.heap s'.heap := by
  have rv := vals_ints hi
  have lenV := hi.length
  have isT : ∀ b, b ∈ cs.map (·.2) → s₁.heap.get? b = some tab0 := fun b hm => by
    obtain ⟨p, hp, rfl⟩ := List.mem_map.mp hm
    exact hT p hp
  have inT : ∀ p ∈ cs, p.2 ∈ cs.map (·.2) := fun p hp => List.mem_map.mpr ⟨p, hp, rfl⟩
  have aT : a ∉ cs.map (·.2) := fun z => by
    have q := isT a z
    rw [ha] at q
    cases q
  have look : ∀ b, entH K cs a vs ns b = none ∨ entH K cs a vs ns b = some (.tbl #[]) ∨ ∃ o xs, entH K cs a vs ns b = some (.frz o (.lst xs)) := fun b => by
    unfold entH
    split
    · exact .inr (.inr ⟨_, _, rfl⟩)
    · split
      · exact .inr (.inl rfl)
      · exact .inl rfl
  have trk : ∀ b, entH K cs a vs ns b ≠ none → (b = a ∧ K.lookup a = none) ∨ b ∈ cs.map (·.2) := fun b z => by
    unfold entH at z
    split at z
    · rename_i c; exact .inl c
    · split at z
      · rename_i c; exact .inr c
      · exact absurd rfl z
  have atT : ∀ p ∈ cs, entH K cs a vs ns p.2 = some (.tbl #[]) := fun p hp => by
    unfold entH
    rw [if_neg (fun z => aT (by rw [← z.1]; exact inT p hp)), if_pos (inT p hp)]
  have hok : HOk P w (entH K cs a vs ns) s₁.heap := fun b u z => by
    unfold entH at z
    split at z
    · rename_i c
      cases z
      rw [c.1]
      exact ⟨ha, by rw [List.length_map]; exact hl, vs, _, rv, ha⟩
    · split at z
      · rename_i c
        cases z
        exact isT b c
      · cases z
  have free : ∀ {b : Addr} {o : Obj}, s₁.heap.get? b = some o → (∀ us m, o.data ≠ .seq us m) → o.data ≠ .fields #[] → entH K cs a vs ns b = none := fun {b o} e n1 n2 => by
    cases q : entH K cs a vs ns b with
    | none => rfl
    | some u =>
      rcases trk b (by rw [q]; simp) with ⟨e', _⟩ | e'
      · rw [e', ha] at e
        cases e
        exact absurd rfl (n1 _ _)
      · rw [isT b e'] at e
        cases e
        exact absurd rfl n2
  have freeD : ∀ {b : Addr} {o : Obj} {es : Array DictEntry} {ep : Nat}, s₁.heap.get? b = some o → o.data = .dict es ep → entH K cs a vs ns b = none := fun {b o es ep} e d => free e (fun us m z => by rw [d] at z; cases z) (fun z => by rw [d] at z; cases z)
  have up : ∀ {b : Addr} {o : Obj}, s₁.heap.get? b = some o → entH K cs a vs ns b = none → (hidT s₁.heap (entH K cs a vs ns)).get? b = some o := fun e n => hidT_get e n
  have nsK : ∀ {b : Addr} {m : Str → Option Value}, s₁.heap.Ns b m → (hidT s₁.heap (entH K cs a vs ns)).Ns b m := fun {b m} ⟨o, es, ep, e, d, r⟩ => ⟨o, es, ep, up e (freeD e d), d, r⟩
  have kin : K.In (hidT s₁.heap (entH K cs a vs ns)) := fun b o e => up (KX b o e) (by
    cases q : entH K cs a vs ns b with
    | none => rfl
    | some u =>
      rcases trk b (by rw [q]; simp) with ⟨e1, e2⟩ | e'
      · rw [e1, e2] at e
        cases e
      · obtain ⟨p, hp, ep⟩ := List.mem_map.mp e'
        rw [← ep, nT p hp] at e
        cases e)
  have hM : L2.Mod K mg (hidT s₁.heap (entH K cs a vs ns)) := ⟨kin, nsK hns, ⟨mb, nsK hb, hbb⟩, let ⟨mc, h1, h2⟩ := hlim; ⟨mc, nsK h1, h2⟩⟩
  have TB : ∀ p ∈ cs, TabB (hidT s₁.heap (entH K cs a vs ns)) mg p.1 p.2 := fun p hp => by
    refine ⟨?_, ?_, fun z => ?_⟩
    · obtain ⟨o, us, file, tf, flags, tg, inF, text, tt, e1, r1, r2, r3, r4, r5, r6, r7, r8, ne⟩ := C p hp
      refine ⟨o, us, file, tf, flags, tg, inF, text, tt, up e1 (free e1 (fun vs n z => ?_) fun z => ?_), r1, r2, r3, r4, r5, r6, r7, r8, ne⟩
      · rw [r2] at z
        cases z
      · rw [r2] at z
        cases z
        simp at r3
    · obtain ⟨bm, ob, b1, b2, b3, b4, b5, b6⟩ := hbm
      have nG : bm ≠ mainGlobals := fun q => by
        obtain ⟨o, es, ep, e, hd, _⟩ := hns
        rw [q, e] at b3
        cases b3
        rw [hd] at b6
        cases b6
      have nP : bm ≠ p.2 := fun q => by
        rw [q, hT p hp] at b3
        cases b3
        cases b6
      exact ⟨bm, ob, b1, b2, nG, nP, up b3 (free b3 (fun vs n z => by rw [b6] at z; cases z) fun z => by rw [b6] at z; cases z), b4, b5, b6⟩
    · obtain ⟨o, es, ep, e, hd, _⟩ := hns
      rw [z, hT p hp] at e
      cases e
      cases hd
  refine ⟨_, entH K cs a vs ns, ⟨rfl, hM, fun b o e => of_hidT e, Nat.le_of_eq (hidT_size _ _), trivial, fun b hb => absurd (show b ∈ ([] : List Addr) from hb) (by simp), hok, .of_eq hg⟩, TB, atT, ?_, ?_, look, fun H' s' un hok' => ?_⟩
  · cases hk : K.lookup a with
    | some o =>
      have e := KX a o hk
      rw [ha] at e
      cases e
      exact .inr ⟨_, vs.toArray, _, hk, rfl, rfl, rfl, by rw [List.size_toArray, lenV]; exact hl, by simpa using rv⟩
    | none => exact .inl (.inr ⟨{ cls := .type "list", data := .seq vs.toArray }, by unfold entH; rw [if_pos ⟨rfl, hk⟩]⟩)
  · obtain ⟨o, e, es, n, d⟩ := hsy
    exact ⟨o, up e (freeD e d), es, n, d⟩
  · have keep : ∀ b o, b ∉ cs.map (·.2) → s₁.heap.get? b = some o → s'.heap.get? b = some o := fun b o nb e => by
      rcases look b with z | z | ⟨ob, xs, z⟩
      · exact un.keep b o e z (by intro y; exact absurd (show b ∈ ([] : List Addr) from y) (by simp)) (by simp)
      · rcases trk b (by rw [z]; simp) with ⟨e1, e2⟩ | e'
        · unfold entH at z
          rw [if_pos ⟨e1, e2⟩] at z
          cases z
        · exact absurd e' nb
      · have z2 := un.frzs b ob _ z
        obtain ⟨e1, _⟩ := hok b _ z
        obtain ⟨e2, _⟩ := hok' b _ z2
        rw [e] at e1
        cases e1
        exact e2
    have grown : ∀ p ∈ cs, ∃ more : Array Value, s'.heap.get? p.2 = some { cls := .none, data := .fields more } := fun p hp => by
      obtain ⟨more, z⟩ := un.tbls p.2 #[] (atT p hp)
      exact ⟨_, hok' p.2 _ z⟩
    refine ⟨fun b o e => ?_, fun b o e => ?_⟩
    · by_cases hb : b ∈ cs.map (·.2)
      · obtain ⟨p, hp, ep⟩ := List.mem_map.mp hb
        obtain ⟨more, hm⟩ := grown p hp
        rw [← ep] at e ⊢
        rw [hT p hp] at e
        cases e
        exact .inr (.inl ⟨((C p hp).tab (hT p hp)).isCodeTable, rfl, #[], more, rfl, by rw [Array.empty_append]; exact hm⟩)
      · exact .inl (keep b o hb e)
    · by_cases hb : b ∈ cs.map (·.2)
      · obtain ⟨p, hp, ep⟩ := List.mem_map.mp hb
        obtain ⟨more, hm⟩ := grown p hp
        rw [← ep]
        exact ⟨_, hm⟩
      · exact ⟨o, keep b o hb e⟩
end
/-- the head's hook: what stands written, the tables, the modules' own dict -/
def isDct : Option Obj → Bool
  | some ⟨.type c, _, .dict _ _, _⟩ => c != "list"
  | _ => false
def mnHook (K : Params → PySem.W.Frag) (as : List Addr) (e : ∀ P, as = (K P).map (·.1)) (ts : List Addr) (_ : Unit) : PySem.W.Hook where
  α := (List (Option Obj) × List (Option Obj)) × Bool
  obs := fun s => ((as.map s.heap.get?, ts.map s.heap.get?), isDct (s.heap.get? sysModules))
  val := fun w => (((K w.params).map fun p => some p.2, ts.map fun _ => some (PySem.W.tabObj #[])), true)
  says := fun w h => PySem.W.InK K w h ∧ (∀ P ∈ ts, h.get? P = some (PySem.W.tabObj #[])) ∧ ∃ o, h.get? sysModules = some o ∧ o.cls ≠ .type "list" ∧ ∃ es n, o.data = .dict es n
  of := fun w s x => by
    obtain ⟨x1, x2⟩ := Prod.mk.inj x
    refine ⟨PySem.W.InK.of e w s (Prod.mk.inj x1).1, List.map_inj_left.mp (Prod.mk.inj x1).2, ?_⟩
    cases q : s.heap.get? sysModules with
    | none => rw [q] at x2; cases x2
    | some o =>
      rw [q] at x2
      obtain ⟨c, d, dt, sl⟩ := o
      cases dt <;> first | (cases c <;> cases x2; done) | skip
      cases c <;> first | (cases x2; done) | skip
      refine ⟨_, rfl, fun z => ?_, _, _, rfl⟩
      cases z
      exact absurd (show (("list" : String) != "list") = true from x2) (by decide)
  keeps := fun w h h' x k => ⟨PySem.W.InK.keeps w h h' x.1 k, fun P hP => k _ _ (x.2.1 P hP), let ⟨o, e, r⟩ := x.2.2; ⟨o, k _ _ e, r⟩⟩
theorem mn_says {K : Params → PySem.W.Frag} {as : List Addr} {e : ∀ P, as = (K P).map (·.1)} {ts : List Addr} {w : World} {h : Heap} (Y : (mnHook K as e ts ()).says w h) :
    (K w.params).In h ∧ (∀ P ∈ ts, h.get? P = some (PySem.W.tabObj #[])) ∧ ∃ o, h.get? sysModules = some o ∧ o.cls ≠ .type "list" ∧ ∃ es n, o.data = .dict es n := Y
end Mn

-- Mn25
set_option Elab.async false
set_option linter.all false
set_option maxRecDepth 100000
set_option maxHeartbeats 2000000
set_option autoImplicit false
namespace Mn
open PySem PySem.Spec L2 PyProof.Rows LamX
/-- what a law's text gives, over the head's heap h: the tables cs, then, over each base, the world and the run -/
def LawAt (P : Program) (w : World) (K : PySem.W.Frag) (k n : Nat) (mg : Str → Option Value) (fa : Addr) (h : Heap) : Prop :=
  ∃ (cs : List (Addr × Addr)) (nm : Addr × Addr → Str), (∀ p ∈ cs, h.get? p.2 = some tab0) ∧ (∀ p ∈ cs, K.lookup p.2 = none) ∧ (∀ p ∈ cs, PySem.W.CodeHd h p.1 p.2) ∧
    ∀ base : Heap, K.In base → base.Ns mainGlobals mg → (∀ p ∈ cs, TabB base mg p.1 p.2) → (∃ o, base.get? sysModules = some o ∧ o.cls ≠ .type "list") →
      ∃ (Γ : Gam) (gv : Nat → V) (fA ca : Nat → Addr) (fns : List Ent) (tf : EO → Option EO) (gd : Gd) (tsp : (XK → TE) → TE) (f : Nat),
        Law ⟨P, w, K, mg, base, Γ, cs.map fun p => (p.2, nm p), gv, fA, ca⟩ fns tf gd tsp ∧ fA f = fa ∧ f < Γ.fns.length ∧
        ∀ ns : List Int, ns.length ≤ n → (∀ z ∈ ns, Builtin.Int.intBits z ≤ 1048576) → ∃ ps, run fns tf gd k f [.val (.rol (ns.map D.int))] = some (.ret (.val (.bl true)) ps)
theorem rol_den {K : PySem.W.Frag} {G : Hp} {a : Addr} {ns : List Int} (h : SqL K G a (ns.map V.int)) : Den K G (.ref a) (.rol (ns.map D.int)) := .rol h (ints_den ns)
theorem law_run {P : Program} {w : World} {K : PySem.W.Frag} {mg mb : Str → Option Value} {k n : Nat} {fa a : Addr} {s₁ : Shared} {vs : List Value} {ns : List Int}
    (KX : K.In s₁.heap) (hns : s₁.heap.Ns mainGlobals mg) (hb : s₁.heap.Ns builtinsNs mb) (hbb : ∀ x : Str, x ≠ "__name__" → mb x = bootBuiltins x) (hlim : s₁.heap.NoLimit) (hg : s₁.gens = #[])
    (hbm : ∃ (bm : Addr) (ob : Obj), mg "__builtins__" = some (.ref bm) ∧ bm ≠ builtinsNs ∧ s₁.heap.get? bm = some ob ∧ ob.cls = .type "module" ∧ ob.dict = some builtinsNs ∧ ob.data = .plain)
    (ha : s₁.heap.get? a = some { cls := .type "list", data := .seq vs.toArray }) (hi : IntsAre vs ns) (hl : ns.length ≤ n) (hl2 : n ≤ sizeLine) (hbits : ∀ z ∈ ns, Builtin.Int.intBits z ≤ 1048576) (hr : Room (5 * k) callerA)
    (hsy : ∃ o, s₁.heap.get? sysModules = some o ∧ o.cls ≠ .type "list" ∧ ∃ es n, o.data = .dict es n) (L : LawAt P w K k n mg fa s₁.heap) :
    codeAny (model P w) callerA (.call (.ref fa) ⟨[.ref a], []⟩) (fun r s' => r = .ok (.ret (.bool true)) ∧ OldK s₁.heap s'.heap ∧ s'.os = s₁.os ∧ AllBare s'.gens) s₁ := by
  obtain ⟨cs, nm, hT, nT, C, F⟩ := L
  obtain ⟨osy, hs1, hs2, hs3⟩ := hsy
  obtain ⟨base, H, e0, TB, atT, sq, ⟨o, so, es, nn, sd⟩, look, last⟩ := law_env (P := P) (w := w) (vs := vs) KX hns hb hbb hlim hg hT nT C hbm ha hi (Nat.le_trans hl hl2) ⟨osy, hs1, hs3⟩
  have sys : ∃ o, base.get? sysModules = some o ∧ o.cls ≠ .type "list" := by
    refine ⟨o, so, ?_⟩
    have := (e0.bs _ _ so).1
    rw [hs1] at this
    cases this
    exact hs2
  obtain ⟨Γ, gv, fA, ca, fns, tf, gd, tsp, f, Lw, ef, hf, run_ok⟩ := F base e0.mod.kin e0.mod.glob TB sys
  obtain ⟨ps, er⟩ := run_ok ns hl hbits
  have FG := ((Lw.facts k).fns f hf).2.2
  have ef' : fA f = fa := ef
  let G : Hp := fun b => match H b with | some (.tbl _) => none | x => x
  have GH : ∀ b o, G b = some o ↔ H b = some o ∧ ∀ ps, o ≠ .tbl ps := fun b o => by
    show (match H b with | some (.tbl _) => none | x => x) = some o ↔ _
    cases q : H b with
    | none => simp
    | some u =>
      cases u <;> first
        | (simp only [Option.some.injEq]; constructor
           · intro z; subst z; exact ⟨rfl, fun ps z => by cases z⟩
           · intro z; exact z.1)
        | (constructor
           · intro z; cases z
           · intro z; exact absurd (Option.some.inj z.1).symm (z.2 _))
  have sqG : SqL K G a (ns.map V.int) := by
    rcases sq with (h | ⟨u, h⟩) | h
    · exact .inl (.inl ((GH _ _).mpr ⟨h, fun ps z => by cases z⟩))
    · exact .inl (.inr ⟨u, (GH _ _).mpr ⟨h, fun ps z => by cases z⟩⟩)
    · exact .inr h
  have R : Rel K (cs.map fun p => (p.2, nm p)) [.val (.rol (ns.map D.int))] ([V.ref a].map some) G H := by
    refine ⟨rfl, fun b o q => ((GH b o).mp q).1, fun b ps q => ((GH b _).mp q).2 ps rfl, fun p hp => ?_, fun i d q => ?_, fun i xs q => ?_, fun i j b ⟨⟨xs, q⟩, _⟩ _ => ?_⟩
    · obtain ⟨p', hp', rfl⟩ := List.mem_map.mp hp
      exact TabS.nil (atT p' hp')
    · cases i with
      | zero =>
        simp at q
        subst q
        exact ⟨_, rfl, rol_den sqG⟩
      | succ i => simp at q
    · cases i with
      | zero => rcases q with q | q <;> simp at q
      | succ i => rcases q with q | q <;> simp at q
    · cases i with
      | zero => rcases q with q | q <;> simp at q
      | succ i => rcases q with q | q <;> simp at q
  have z := FG callerA [] s₁ H [.ref a] [.ref a] (fun v _ => v = .bl true) (fun _ _ _ => False) hr rfl e0 (.cons rfl .nil) ⟨_, G, _, er, R, fun v G' H' _ _ rv => by
    have rv : Den K G' v (.bl true) := rv
    cases rv
    rfl⟩
  rw [show (Wd.fa ⟨P, w, K, mg, base, Γ, cs.map fun p => (p.2, nm p), gv, fA, ca⟩ f) = fa from ef'] at z
  refine codeAny_mono z fun r s' h => ?_
  cases r with
  | error e =>
    obtain ⟨_, _, _, _, _, _, _, _, _, _, _, _, he⟩ := h
    exact he.elim
  | ok fl =>
    cases fl with
    | next => exact False.elim h
    | brk => exact False.elim h
    | cont => exact False.elim h
    | ret u =>
      obtain ⟨v, H', os, bare, un, hok', r', q⟩ := h
      have q' : v = .bl true := q
      subst q'
      obtain rfl : u = Value.bool true := r'
      exact ⟨rfl, last H' s' un hok', os, bare⟩
theorem mn_walk {l : PySem.W.OpenLaw} {n k : Nat} {q : Program} {loose : List Str} {XP : (Str → Option Value) → Heap → Prop} {YP : World → Heap → Prop} {d : DefRec} {K : Params → PySem.W.Frag}
    (hn : l.most = some n) (hn2 : n ≤ sizeLine) (hdf : d.params.defaults = []) (hr : Room (5 * k) callerA)
    (hY : ∀ (w : World) (h : Heap), YP w h → (K w.params).In h ∧ ∃ o, h.get? sysModules = some o ∧ o.cls ≠ .type "list" ∧ ∃ es n, o.data = .dict es n)
    (F : ∀ (w : World) (mg : Str → Option Value) (fa : Addr) (h : Heap), YP w h → (K w.params).In h → h.Ns mainGlobals mg → mg d.name = some (.ref fa) → LawAt l.prog w (K w.params) k n mg fa h) :
    PySem.W.WalkO q loose XP YP l.row.toRowW d [] (fun f vs => PySem.call f vs) := by
  refine Att.attach_callB hn hdf fun w s₀ s₁ mg mb fa o pm cd doc a vs ns G Y ho hd hcd hmg hobj hints hlen hbits hg => ?_
  obtain ⟨KX, sys⟩ := hY w _ Y
  exact law_run KX G.T.g G.T.b G.T.builtins G.T.nolimit hg G.T.bmain hobj hints hlen hn2 hbits hr sys (F w mg fa _ Y KX G.T.g hmg)
end Mn

-- Mn26
set_option Elab.async false
set_option linter.all false
set_option maxRecDepth 100000
set_option maxHeartbeats 2000000
set_option autoImplicit false
namespace Mn
open PySem PySem.Spec L2 PyProof.Rows
open He (ga ma fAd ba cT)
/-! ## the end of a law: what the head's hook tells -/
theorem mn_walkX {l : PySem.W.OpenLaw} {n k : Nat} {q : Program} {loose : List Str} {XP : (Str → Option Value) → Heap → Prop} {YP : World → Heap → Prop} {d : DefRec}
    (hn : l.most = some n) (hn2 : n ≤ sizeLine) (hdf : d.params.defaults = []) (hr : Room (5 * k) callerA)
    (F : ∀ (w : World) (mg : Str → Option Value) (fa : Addr) (h : Heap), YP w h → h.Ns mainGlobals mg → mg d.name = some (.ref fa) →
      ∃ K : PySem.W.Frag, K.In h ∧ (∃ o, h.get? sysModules = some o ∧ o.cls ≠ .type "list" ∧ ∃ es n, o.data = .dict es n) ∧ LawAt l.prog w K k n mg fa h) :
    PySem.W.WalkO q loose XP YP l.row.toRowW d [] (fun f vs => PySem.call f vs) := by
  refine Att.attach_callB hn hdf fun w s₀ s₁ mg mb fa o pm cd doc a vs ns G Y ho hd hcd hmg hobj hints hlen hbits hg => ?_
  obtain ⟨K, KX, sys, L⟩ := F w mg fa _ Y G.T.g hmg
  exact law_run KX G.T.g G.T.b G.T.builtins G.T.nolimit hg G.T.bmain hobj hints hlen hn2 hbits hr sys L
/-- the head's hook: HandS's facts, the modules' own dict, classes' __init__ -/
def sysB (g : Addr → Option Obj) : Bool := isDct (g sysModules)
theorem isDct_ok {x : Option Obj} (h : isDct x = true) : ∃ o, x = some o ∧ o.cls ≠ .type "list" ∧ ∃ es n, o.data = .dict es n := by
  cases x with
  | none => cases h
  | some o =>
    obtain ⟨c, d, dt, sl⟩ := o
    cases dt <;> first | (cases c <;> cases h; done) | skip
    cases c <;> first | (cases h; done) | skip
    refine ⟨_, rfl, fun z => ?_, _, _, rfl⟩
    cases z
    exact absurd (show (("list" : String) != "list") = true from h) (by decide)
/-- what is looked at: what the names reach, cells of functions, the statics -/
def cellAd (g : Addr → Option Obj) (as : List Addr) : List Addr := as.flatMap fun a => match g a with
  | some ⟨_, _, .func fd, _⟩ => fd.closure.map (·.2)
  | _ => []
def asM (g : Addr → Option Obj) (n : Nat) : List Addr := He.asD g n ++ cStatics :: cellAd g (He.asD g n)
/-- a class's __init__ -/
structure ClD where
  C : Str
  gt : Option Str
  q : Str
  params : Arguments
  body : List Stmt
  scope : Scope
  cn : List Str
abbrev ClV : Type := Option (Str × Str × Arguments × FuncBody × Scope × Addr × List Str × Value × Addr)
/-- where a property's getter stands -/
def gAd (K : PySem.W.Frag) (C f : Str) : Addr := match PySem.W.recIn K (ma K (ga K C) f) "property" with
  | some (.ref g :: _) => g
  | _ => 0
def whAd (K : PySem.W.Frag) (C : Str) : Option Str → Addr
  | none => fAd K (C, some "__init__")
  | some f => gAd K C f
def clObs (K : PySem.W.Frag) (C : Str) (gt : Option Str) : ClV := match K.lookup (whAd K C gt) with
  | some ⟨_, _, .func fd, _⟩ => some (fd.name, fd.qualname, fd.params, fd.body, fd.scope, fd.globals, fd.closure.map (·.1), fd.defaults, fd.builtins)
  | _ => none
def ClD.name (d : ClD) : Str := d.gt.getD "__init__"
def ClD.val (d : ClD) : ClV := some (d.name, d.q, d.params, .stmts d.body, d.scope, mainGlobals, d.cn, .none, builtinsNs)
theorem cl_ok {K : PySem.W.Frag} {d : ClD} (e : clObs K d.C d.gt = d.val) :
    ∃ oc od osl cl kV doc pm an cdv ct, K.lookup (whAd K d.C d.gt) = some ⟨oc, od, .func (PySem.W.fnX d.name d.q d.params d.body d.scope cl .none kV doc pm an cdv ct), osl⟩ ∧ cl.map (·.1) = d.cn := by
  unfold clObs at e
  cases q : K.lookup (whAd K d.C d.gt) with
  | none =>
    rw [q] at e
    cases e
  | some o =>
    obtain ⟨oc, od, dt, osl⟩ := o
    rw [q] at e
    cases dt with
    | func fd =>
      obtain ⟨n1, n2, n3, n4, n5, n6, n7, n8, n9, n10, n11, n12, n13, n14, n15⟩ := fd
      have e2 : (some (n1, n2, n3, n4, n5, n6, n7.map (·.1), n8, n15) : ClV) = (some (d.name, d.q, d.params, .stmts d.body, d.scope, mainGlobals, d.cn, .none, builtinsNs) : ClV) := e
      simp only [Option.some.injEq, Prod.mk.injEq] at e2
      obtain ⟨h1, h2, h3, h4, h5, h6, h7, h8, h9⟩ := e2
      subst h1 h2 h3 h4 h5 h6 h8 h9
      exact ⟨oc, od, osl, n7, n9, n10, n11, n12, n13, n14, rfl, h7⟩
    | _ => cases e
abbrev AlM : Type := (He.AlT × List ClV) × Bool
def obsM (n : Nat) (fa : List He.Fa) (fn : List He.DefD) (cl : List ClD) (tf : List He.Defn) (ex : PySem.W.Frag → Bool) (g : Addr → Option Obj) : AlM :=
  ((He.obsT fa fn [] (He.frT g (asM g n)), cl.map fun d => clObs (He.frT g (asM g n)) d.C d.gt), (ex (He.frT g (asM g n)) && He.tabsB g tf (He.frT g (asM g n))) && sysB g)
structure SaysM (fa : List He.Fa) (fn : List He.DefD) (cl : List ClD) (tf : List He.Defn) (ex : PySem.W.Frag → Bool) (w : World) (h : Heap) (K : PySem.W.Frag) : Prop where
  t : He.SaysT fa fn [] w K
  cl : cl.map (fun d => clObs K d.C d.gt) = cl.map ClD.val
  more : ex K = true
  hd : ∀ p ∈ tf, PySem.W.codeHdIn K (cT K p).1 (cT K p).2 = true
  out : ∀ p ∈ tf, K.lookup (cT K p).2 = none
  empty : ∀ p ∈ tf, h.get? (cT K p).2 = some { cls := .none, data := .fields #[] }
  sys : ∃ o, h.get? sysModules = some o ∧ o.cls ≠ .type "list" ∧ ∃ es n, o.data = .dict es n
theorem saysM_of {n : Nat} {fa : List He.Fa} {fn : List He.DefD} {cl : List ClD} {tf : List He.Defn} {ex : PySem.W.Frag → Bool} {w : World} {h : Heap} (e : obsM n fa fn cl tf ex h.get? = ((He.valT fn [] w, cl.map ClD.val), true)) : SaysM fa fn cl tf ex w h (He.frT h.get? (asM h.get? n)) := by
  have e1 : He.obsT fa fn [] (He.frT h.get? (asM h.get? n)) = He.valT fn [] w := congrArg (fun z : AlM => z.1.1) e
  have e2 : cl.map (fun d => clObs (He.frT h.get? (asM h.get? n)) d.C d.gt) = cl.map ClD.val := congrArg (fun z : AlM => z.1.2) e
  have e3 : ((ex (He.frT h.get? (asM h.get? n)) && He.tabsB h.get? tf (He.frT h.get? (asM h.get? n))) && sysB h.get?) = true := congrArg (fun z : AlM => z.2) e
  obtain ⟨h0, hs⟩ := ba e3
  obtain ⟨h1, h2⟩ := ba h0
  have key : ∀ p ∈ tf, PySem.W.codeHdIn (He.frT h.get? (asM h.get? n)) (cT (He.frT h.get? (asM h.get? n)) p).1 (cT (He.frT h.get? (asM h.get? n)) p).2 = true ∧ ∃ o, h.get? (cT (He.frT h.get? (asM h.get? n)) p).2 = some o ∧ He.emptyTab o = true := fun p hp => by
    obtain ⟨h3, h4⟩ := ba (List.all_eq_true.mp h2 p hp)
    refine ⟨h3, ?_⟩
    cases q : h.get? (cT (He.frT h.get? (asM h.get? n)) p).2 with
    | none =>
      rw [q] at h4
      cases h4
    | some o =>
      rw [q] at h4
      exact ⟨o, rfl, h4⟩
  exact ⟨e1, e2, h1, fun p hp => (key p hp).1, fun p hp => by
    obtain ⟨_, o, q, z⟩ := key p hp
    exact He.frT_none q z, fun p hp => by
    obtain ⟨_, o, q, z⟩ := key p hp
    rw [q, He.emptyTab_eq z], isDct_ok hs⟩
def hookM (n : Nat) (fa : List He.Fa) (fn : List He.DefD) (cl : List ClD) (tf : List He.Defn) (ex : PySem.W.Frag → Bool) : PySem.W.Hook where
  α := AlM
  obs := fun s => obsM n fa fn cl tf ex s.heap.get?
  val := fun w => ((He.valT fn [] w, cl.map ClD.val), true)
  says := fun w h => ∃ K : PySem.W.Frag, K.In h ∧ SaysM fa fn cl tf ex w h K
  of := fun _ _ e => ⟨_, He.frT_in, saysM_of e⟩
  keeps := fun _ _ _ ⟨K, hK, c⟩ k => ⟨K, PySem.W.Frag.In.keeps hK k, ⟨c.t, c.cl, c.more, c.hd, c.out, fun p hp => k _ _ (c.empty p hp), let ⟨o, e, r⟩ := c.sys; ⟨o, k _ _ e, r⟩⟩⟩
theorem obsM_eq {n : Nat} {fa : List He.Fa} {fn : List He.DefD} {cl : List ClD} {tf : List He.Defn} {ex : PySem.W.Frag → Bool} {g : Addr → Option Obj} {s : Shared} (h : ∀ a, g a = s.heap.get? a) : obsM n fa fn cl tf ex g = (hookM n fa fn cl tf ex).obs s := by
  have e : g = s.heap.get? := funext h
  rw [e] <;> rfl
theorem SaysM.cls {fa : List He.Fa} {fn : List He.DefD} {cl : List ClD} {tf : List He.Defn} {ex : PySem.W.Frag → Bool} {w : World} {h : Heap} {K : PySem.W.Frag} (s : SaysM fa fn cl tf ex w h K) {d : ClD} (hd : d ∈ cl) : clObs K d.C d.gt = d.val :=
  List.map_inj_left.mp s.cl d hd
/-! ### built-in names are not bound -/
def isTyV : Option Value → Bool
  | some (.type _) => true
  | _ => false
def gfB (K : PySem.W.Frag) : Bool := match K.lookup mainGlobals with
  | some ⟨_, _, .dict es _, _⟩ => es.toList.all fun e => match e.key with
    | .str y _ => (bootBuiltins y).isNone || decide (y ∈ bootMainNames)
    | _ => false
  | _ => false
theorem gf_ok {K : PySem.W.Frag} {h : Heap} {mg : Str → Option Value} (X : K.In h) (G : h.Ns mainGlobals mg) (c : gfB K = true) {x : Str} (hb : bootBuiltins x ≠ none) (hx : x ∉ bootMainNames) : mg x = none := by
  obtain ⟨o, es, ep, ho, hd, _, hf⟩ := G
  unfold gfB at c
  split at c
  · rename_i cc d es' n' sl q
    have := X _ _ q
    rw [ho] at this
    cases this
    cases hd
    rw [← hf]
    unfold nsFind findBy
    rw [← Array.find?_toList]
    cases z : es.toList.find? (fun e => e.key.isStr x) with
    | none => rfl
    | some e =>
      have h1 := List.mem_of_find?_eq_some z
      have h2 := List.find?_some z
      have h3 := List.all_eq_true.mp c e h1
      cases ek : e.key with
      | str y t =>
        rw [ek] at h2 h3
        have e1 : y = x := by
          have : (y == x) = true := h2
          exact eq_of_beq this
        subst e1
        have h4 : ((bootBuiltins y).isNone || decide (y ∈ bootMainNames)) = true := h3
        rcases Bool.or_eq_true_iff.mp h4 with h5 | h5
        · exact absurd (Option.isNone_iff_eq_none.mp h5) hb
        · exact absurd (of_decide_eq_true h5) hx
      | _ => rw [ek] at h3; cases h3
  · cases c
theorem main_noTy : ∀ y ∈ bootMainNames, isTyV (bootBuiltins y) = false := by decide +kernel
theorem gf_ty {K : PySem.W.Frag} {h : Heap} {mg : Str → Option Value} (X : K.In h) (G : h.Ns mainGlobals mg) (c : gfB K = true) (t : String) (hb : bootBuiltins (Str.ofString t) = some (.type t)) : mg (Str.ofString t) = none := by
  refine gf_ok X G c (by rw [hb]; simp) fun z => ?_
  have := main_noTy _ z
  rw [hb] at this
  cases this
theorem bi_boot (b : Bi) : bootBuiltins b.nm ≠ none ∧ b.nm ∉ bootMainNames := by
  have q : ∀ x ∈ ([Bi.len.nm, Bi.abs.nm, Bi.max.nm, Bi.min.nm, Bi.int.nm, Bi.divmod.nm, Bi.repr.nm, Bi.all.nm, Bi.any.nm, Bi.sorted.nm, Bi.tuple.nm, Bi.list.nm, Bi.str.nm] : List Str), ((bootBuiltins x).isSome && !decide (x ∈ bootMainNames)) = true := by decide +kernel
  have : ((bootBuiltins b.nm).isSome && !decide (b.nm ∈ bootMainNames)) = true := q _ (by cases b <;> simp)
  obtain ⟨h1, h2⟩ := ba this
  exact ⟨fun z => (by rw [z] at h1; cases h1), fun z => (by rw [decide_eq_true z] at h2; cases h2)⟩
theorem nm_boot : ∀ x ∈ (["isinstance", "range", "set", "repr", "ValueError", "super"] : List Str), ((bootBuiltins x).isSome && !decide (x ∈ bootMainNames)) = true := by decide +kernel
theorem gf_nm {K : PySem.W.Frag} {h : Heap} {mg : Str → Option Value} (X : K.In h) (G : h.Ns mainGlobals mg) (c : gfB K = true) {x : Str} (hx : x ∈ (["isinstance", "range", "set", "repr", "ValueError", "super"] : List Str)) : mg x = none := by
  obtain ⟨h1, h2⟩ := ba (nm_boot x hx)
  exact gf_ok X G c (fun z => (by rw [z] at h1; cases h1)) fun z => (by rw [decide_eq_true z] at h2; cases h2)
/-! ### globals of the text -/
inductive GlD where
  | str (z : Str) | int (i : Int) | tup (zs : List Str)
def GlD.d : GlD → D
  | .str z => .str z
  | .int i => .int i
  | .tup zs => .tup (zs.map .str)
def GlD.v (K : PySem.W.Frag) (x : Str) : GlD → V
  | .str z => .str z
  | .int i => .int i
  | .tup _ => .ref (ga K x)
def GlD.ok (K : PySem.W.Frag) (x : Str) : GlD → Bool
  | .str z => (He.Fa.str x z).ok K
  | .int i => (He.Fa.int x i).ok K
  | .tup zs => (He.Fa.glo x).ok K && He.tupB K x (zs.map .str)
theorem strs_denT {K : PySem.W.Frag} {G : Hp} : ∀ zs : List Str, DenL K G ((zs.map He.Dv.str).map (He.Dv.v K)) (zs.map .str)
  | [] => .nil
  | z :: zs => .cons (.str z) (strs_denT zs)
theorem GlD.mg_ok {K : PySem.W.Frag} {h : Heap} {mg : Str → Option Value} (X : K.In h) (G : h.Ns mainGlobals mg) {x : Str} {g : GlD} (c : g.ok K x = true) : ∃ u, mg x = some u ∧ RelV (g.v K x) u := by
  cases g with
  | str z =>
    obtain ⟨t, e⟩ := He.str_ok X G c
    exact ⟨_, e, t, rfl⟩
  | int i =>
    obtain ⟨t, e⟩ := He.int_ok X G c
    exact ⟨_, e, t, rfl⟩
  | tup zs => exact ⟨_, He.glo_ok X G (ba c).1, rfl⟩
theorem GlD.den {K : PySem.W.Frag} {x : Str} {g : GlD} (c : g.ok K x = true) (G : Hp) : Den K G (g.v K x) g.d := by
  cases g with
  | str z => exact .str z
  | int i => exact .int i
  | tup zs => exact .tup (He.tupB_ok (ba c).2 G) (strs_denT zs)
/-! ### errors -/
def oexB (K : PySem.W.Frag) (C : Addr) : Bool := (match K.lookup C with
  | some ⟨.type c, _, .cls cd, sl⟩ => (match cd.mro, sl.toList with
    | .ref C' :: bm, [_, _, _, _, some (.builtin n), _] => decide (c = "type") && (decide (C' = C) && (decide (n = "ValueError.__new__") && (!cd.hasDel && (cd.hasDict && PySem.HandSPX.refsVE bm))))
    | _, _ => false)
  | _ => false) && (He.eqO (PySem.W.findIn K (.ref C) "__setattr__") (some (some (.builtin "object.__setattr__"))) && (decide (PySem.W.subIn K (.ref C) (.type "BaseException") = some true) && (decide (PySem.W.typeIn K (.ref C) = some (.type "type")) && PySem.W.keepIn K (.ref C))))
theorem oexB_ok {K : PySem.W.Frag} {C : Addr} (h : oexB K C = true) : OexC K C := by
  obtain ⟨h0, h⟩ := ba h
  obtain ⟨h1, h⟩ := ba h
  obtain ⟨h2, h⟩ := ba h
  obtain ⟨h3, h4⟩ := ba h
  refine ⟨?_, He.eqO_ok h1, of_decide_eq_true h2, of_decide_eq_true h3, h4⟩
  split at h0
  · rename_i c dd cd sl q
    split at h0
    · rename_i C' bm k0 k1 k2 k3 n k5 hm hs
      obtain ⟨e1, h0⟩ := ba h0
      obtain ⟨e2, h0⟩ := ba h0
      obtain ⟨e3, h0⟩ := ba h0
      obtain ⟨e4, h0⟩ := ba h0
      obtain ⟨e5, e6⟩ := ba h0
      have e1 := of_decide_eq_true e1
      have e2 := of_decide_eq_true e2
      have e3 := of_decide_eq_true e3
      obtain ⟨a1, a2, a3, a4, a5, a6, a7, a8, a9, a10, a11⟩ := cd
      have e4' : a11 = false := by simpa using e4
      have e5' : a6 = true := e5
      have hm' : a3 = .ref C' :: bm := hm
      clear hm e4 e5
      subst e1 e2 e3 hm' e4' e5'
      have es : sl = #[k0, k1, k2, k3, some (.builtin "ValueError.__new__"), k5] := by
        have := congrArg List.toArray hs
        simpa using this
      rw [es] at q
      exact ⟨_, _, _, _, _, _, _, _, _, _, _, _, _, _, _, q, e6⟩
    · cases h0
  · cases h0
def excB (K : PySem.W.Frag) (D : Addr) : Bool := decide (PySem.W.findIn K (.ref D) "__getattribute__" = some (some (.builtin "BaseException.__getattribute__"))) && (decide (PySem.W.findIn K (.ref D) "__getattr__" = some none) && (decide (PySem.W.subIn K (.ref D) (.type "BaseException") = some true) && (PySem.W.hasDictIn K D &&
  (decide (PySem.W.findIn K (.ref D) "__class__" = some (some (.builtin "object.__class__"))) && (decide (PySem.W.specialIn K (.builtin "object.__class__") "__get__" = some (some (.builtin "getset_descriptor.__get__"))) && (decide (PySem.W.takesIn K (.builtin "object.__class__") = some true) && decide (PySem.W.mroIn K D (.type "object") = some true)))))))
theorem excB_ok {K : PySem.W.Frag} {C : Addr} (h : excB K C = true) : ExcC K C := by
  obtain ⟨h1, h⟩ := ba h
  obtain ⟨h2, h⟩ := ba h
  obtain ⟨h3, h⟩ := ba h
  obtain ⟨h4, h⟩ := ba h
  obtain ⟨h5, h⟩ := ba h
  obtain ⟨h6, h⟩ := ba h
  obtain ⟨h7, h8⟩ := ba h
  exact ⟨of_decide_eq_true h1, of_decide_eq_true h2, of_decide_eq_true h3, h4, of_decide_eq_true h5, of_decide_eq_true h6, of_decide_eq_true h7, of_decide_eq_true h8⟩
/-- the error x, its base hld -/
def errB (K : PySem.W.Frag) (hld x : Str) : Bool := (He.Fa.glo x).ok K && (oexB K (ga K x) && (He.eqO (PySem.W.findIn K (.ref (ga K x)) "value") (some none) && (He.eqO (PySem.W.findIn K (.ref (ga K x)) "__init__") (some (some (.ref (fAd K (hld, some "__init__"))))) && (decide (PySem.W.typeIn K (.ref (fAd K (hld, some "__init__"))) = some (.type "function")) &&
  (xfB K (ga K x) && (excB K (ga K x) && (decide (PySem.W.kitOne K (.ref (ga K x)) (.ref (ga K hld)) = some true) && decide (PySem.W.kitOne K (.ref (ga K x)) (.type "ValueError") = some true))))))))
structure ErrF (K : PySem.W.Frag) (hld x : Str) : Prop where
  glo : (He.Fa.glo x).ok K = true
  oex : OexC K (ga K x)
  val : PySem.W.findIn K (.ref (ga K x)) "value" = some none
  ini : PySem.W.findIn K (.ref (ga K x)) "__init__" = some (some (.ref (fAd K (hld, some "__init__"))))
  ity : PySem.W.typeIn K (.ref (fAd K (hld, some "__init__"))) = some (.type "function")
  xf : XfC K (ga K x)
  exc : ExcC K (ga K x)
  k1 : PySem.W.kitOne K (.ref (ga K x)) (.ref (ga K hld)) = some true
  k2 : PySem.W.kitOne K (.ref (ga K x)) (.type "ValueError") = some true
theorem errB_ok {K : PySem.W.Frag} {hld x : Str} (h : errB K hld x = true) : ErrF K hld x := by
  obtain ⟨h1, h⟩ := ba h
  obtain ⟨h2, h⟩ := ba h
  obtain ⟨h3, h⟩ := ba h
  obtain ⟨h4, h⟩ := ba h
  obtain ⟨h5, h⟩ := ba h
  obtain ⟨h6, h⟩ := ba h
  obtain ⟨h7, h⟩ := ba h
  obtain ⟨h8, h9⟩ := ba h
  exact ⟨h1, oexB_ok h2, He.eqO_ok h3, He.eqO_ok h4, of_decide_eq_true h5, xfB_ok h6, excB_ok h7, of_decide_eq_true h8, of_decide_eq_true h9⟩
def emB (K : PySem.W.Frag) (xs : List Str) : Bool := xs.all fun x => xs.all fun y => decide (PySem.W.exmOne K (.ref (ga K x)) (.ref (ga K y)) = some (decide (x = y)))
theorem emB_ok {K : PySem.W.Frag} {xs : List Str} (h : emB K xs = true) {x y : Str} (hx : x ∈ xs) (hy : y ∈ xs) : PySem.W.exmOne K (.ref (ga K x)) (.ref (ga K y)) = some (decide (x = y)) :=
  of_decide_eq_true (List.all_eq_true.mp (List.all_eq_true.mp h x hx) y hy)
/-- __init__(self, value = None): self.value = value -/
theorem ini_of {Ω : Wd} {fI : Addr} {fd : FuncData} {qual : Str} {st : Stmt} {p1 p2 p3 p4 : Pos} (F : FunD Ω.K "__init__" qual (defArgs st) (defBody st) (defScope st) [.non] [] fI fd) (eb : defBody st = [.Assign [.Attribute (.Name "self" p1) "value" p2] (.Name "value" p3) p4]) (S : FnScope ["self", "value"] ["self", "value"] (defScope st))
    (h : ∀ (T : Addr) (kV doc pm : Value) (an : Option Addr) (cdv ct : Value) (us its : List Value), us.length = 2 → its.length = 1 →
      ∃ k, bindArgs (PySem.W.fnOf "__init__" qual (defArgs st) (defBody st) (defScope st) (.ref T) kV doc pm an cdv ct) ⟨us, []⟩ = seqItems? (.ref T) >>= k ∧ k (some its.toArray) = pure ((["self", "value"] : List Str).zip (us ++ its.drop 1))) : IniOk Ω fI := by
  obtain ⟨ds, hv, hB⟩ := FunD.binds1 (ps := ["self", "value"]) F 2 1 (by simp) rfl h
  have e : ds = [] := by
    have : Vals ([V.non].drop 1) ds := hv
    cases this
    rfl
  subst e
  obtain ⟨oc, od, dV, kV, doc, pm, an, cdv, ct, osl, rfl, lk, hcd, hD, hK⟩ := F.ex
  rw [eb] at lk hB
  exact ⟨qual, _, _, dV, kV, doc, pm, cdv, ct, oc, an, od, osl, p1, p2, p3, p4, lk, hcd, S, hB⟩
end Mn

-- Mn27
set_option Elab.async false
set_option linter.all false
set_option maxRecDepth 100000
set_option maxHeartbeats 2000000
set_option autoImplicit false
namespace Mn
open PySem PySem.Spec L2 PyProof.Rows NdefX
open He (ga ma fAd ba cT)
/-! ## a law's text: its defs -/
structure DefI (Γ : Gam) where
  at_ : He.Defn
  x : Str
  q : Str
  st : Stmt
  F : Fn
  N : List Str
  ps : List Str
  lm : Bool
  ks : List (List Str)
  S : FnScope N ps (defScope st)
  wf : wfSs Γ N ⟨defScope st, lm⟩ F.body = true
  eb : upSs Γ N F.body = defBody st
  ns : N.length = F.ns
  np : ps.length = F.np
  bo : ∀ (kV doc pm : Value) (an : Option Addr) (cdv ct : Value), BindOk (PySem.W.fnOf x q (defArgs st) (defBody st) (defScope st) .none kV doc pm an cdv ct) F.star ps ks
  la : lm = true → at_ = (x, none) ∧ q = x := by first | exact fun z => (by cases z) | exact fun _ => ⟨rfl, rfl⟩
def DefI.d {Γ : Gam} (i : DefI Γ) : He.DefD := ⟨i.at_, i.x, i.q, defArgs i.st, defBody i.st, defScope i.st, [], []⟩
/-- the lambdas' name of the def x -/
abbrev lamN (x : Str) : Str := x ++ ".<locals>." ++ "<lambda>"
theorem def_mk {Ω : Wd} (i : DefI Ω.Γ) {a : Addr} {fd : FuncData} (F : FunD Ω.K i.x i.q (defArgs i.st) (defBody i.st) (defScope i.st) [] [] a fd) (ha : fAd Ω.K i.at_ = a)
    (hl : i.lm = true → LamX.TabB Ω.base Ω.mg (cT Ω.K (i.x, none)).1 (cT Ω.K (i.x, none)).2 ∧ ((cT Ω.K (i.x, none)).2, lamN i.x) ∈ Ω.T ∧ ∀ p ∈ Ω.T, p.1 = (cT Ω.K (i.x, none)).2 → p.2 = lamN i.x) :
    DefOk Ω i.x i.q a i.F i.N i.ps (defScope i.st) i.lm i.ks := by
  obtain ⟨oc, od, dV, kV, doc, pm, an, cdv, ct, osl, rfl, lk, hcd, hD, hK⟩ := F.ex
  obtain rfl : dV = .none := by
    rcases hD with ⟨_, e⟩ | ⟨e, _⟩
    · exact e
    · exact absurd rfl e
  refine ⟨i.S, i.wf, i.ns, i.np, defArgs i.st, .none, kV, doc, pm, cdv, ct, oc, an, od, osl, ?_, hcd, ?_, fun z => ?_⟩
  · rw [i.eb]
    exact lk
  · rw [i.eb]
    exact i.bo kV doc pm an cdv ct
  · obtain ⟨c, e⟩ := He.codeIn_ref hcd
    subst e
    obtain ⟨h1, h2, h3⟩ := hl z
    obtain ⟨ea, eq⟩ := i.la z
    have e : (cT Ω.K (i.x, none)).1 = c := He.codeOf_eq (by rw [← ea, ha]; exact lk) rfl
    rw [e] at h1
    rw [eq]
    exact ⟨c, _, rfl, h1, h2, h3⟩
/-! ### classes -/
def clFr (c : Cl) : List Str := if c.sup.isSome then ["__class__"] else []
structure ClI (Γ : Gam) where
  c : Cl
  st : Stmt
  q : Str
  N : List Str
  ps : List Str
  P : ClP
  eb : upCl Γ N c P = defBody st
  S : NScope N ps (clFr c) (defScope st)
  ns : N.length = c.ns
  np : ps.length = c.np
  p0 : 0 < c.np
  wb : wfSs Γ N ⟨defScope st, false⟩ c.body = true
  ws : wfSup Γ N ⟨defScope st, false⟩ c.sup = true
  wf : wfFl Γ N ⟨defScope st, false⟩ c.flds = true
  vs : isVis (defScope st) (gname N 0) = true
  su : c.sup.isSome = true → (defScope st).names.lookup ("super" : Str) = some .globalImplicit ∧ (defScope st).names.lookup ("__class__" : Str) = some .free ∧ (P.sup.2.2.1.endLine == P.sup.2.2.2.1.line) = true
  bo : c.star = false → ∀ (cl : List (Str × Addr)) (kV doc pm : Value) (an : Option Addr) (cdv ct : Value) (s : Shared) (us : List Value), us.length = ps.length → BindsTo s (PySem.W.fnX "__init__" q (defArgs st) (defBody st) (defScope st) cl .none kV doc pm an cdv ct) ⟨us, []⟩ (ps.zip us)
  bs : c.star = true → ∃ p0 pv, ps = [p0, pv] ∧ ∀ (cl : List (Str × Addr)) (kV doc pm : Value) (an : Option Addr) (cdv ct : Value) (u0 : Value) (rest : List Value), bindArgs (PySem.W.fnX "__init__" q (defArgs st) (defBody st) (defScope st) cl .none kV doc pm an cdv ct) ⟨u0 :: rest, []⟩ = (newTuple rest >>= fun t => pure [(p0, u0), (pv, t)])
  hd : ∃ ar, ((defArgs st).posonlyargs ++ (defArgs st).args).head? = some ar ∧ ar.arg = gname N 0
  nd : ((c.sup.toList ++ c.flds).map (·.1)).Nodup
  sz : (c.sup.toList ++ c.flds).length < 1000
def ClI.d {Γ : Gam} (i : ClI Γ) : ClD := ⟨i.c.C, none, i.q, defArgs i.st, defBody i.st, defScope i.st, clFr i.c⟩
/-- the __init__ that super() calls: sets one field -/
structure SetI where
  C : Str
  st : Stmt
  q : Str
  y : Str
  fld : Str
  p1 : Pos
  p2 : Pos
  p3 : Pos
  p4 : Pos
  eb : defBody st = [.Assign [.Attribute (.Name "self" p1) fld p2] (.Name y p3) p4]
  S : FnScope ["self", y] ["self", y] (defScope st)
  bo : ∀ (kV doc pm : Value) (an : Option Addr) (cdv ct : Value) (us : List Value), us.length = 2 → bindArgs (PySem.W.fnOf "__init__" q (defArgs st) (defBody st) (defScope st) .none kV doc pm an cdv ct) ⟨us, []⟩ = pure ((["self", y] : List Str).zip us)
  h3 : (y == ("__debug__" : Str)) = false
  h4 : (y == ("__classdict__" : Str)) = false
def SetI.d (i : SetI) : He.DefD := ⟨(i.C, some "__init__"), "__init__", i.q, defArgs i.st, defBody i.st, defScope i.st, [], []⟩
/-- a property's getter -/
structure PrI where
  C : Str
  f : Str
  fld : Str
  st : Stmt
  q : Str
  p1 : Pos
  p2 : Pos
  p3 : Pos
  eb : defBody st = [.Return (some (.Attribute (.Name "self" p1) fld p2)) p3]
  S : FnScope ["self"] ["self"] (defScope st)
  bo : ∀ (kV doc pm : Value) (an : Option Addr) (cdv ct : Value) (us : List Value), us.length = 1 → bindArgs (PySem.W.fnOf f q (defArgs st) (defBody st) (defScope st) .none kV doc pm an cdv ct) ⟨us, []⟩ = pure ((["self"] : List Str).zip us)
def PrI.d (i : PrI) : ClD := ⟨i.C, some i.f, i.q, defArgs i.st, defBody i.st, defScope i.st, []⟩
/-- what is looked at of a function: its code's name -/
def codB (K : PySem.W.Frag) (a : Addr) (q : Str) : Bool := match K.lookup a with
  | some ⟨_, _, .func fd, _⟩ => PySem.W.codeIn K fd.code q
  | _ => false
/-- what is looked at of super's frame -/
def supB (K : PySem.W.Frag) (file : Str) (fi C f2 : Addr) : Bool := (match K.lookup fi with
  | some ⟨_, _, .func fd, _⟩ => (match fd.closure, fd.code with
    | [(_, cc)], .ref cda => (match K.lookup cc, K.lookup cda with
      | some ⟨_, _, .cell (some (.ref D)), _⟩, some ⟨_, _, .fields vs, _⟩ => decide (D = C) && (match (vs[2]? : Option Value) with
        | some (.str f _) => file == f
        | _ => false)
      | _, _ => false)
    | _, _ => false)
  | _ => false) && ((PySem.W.clsIn K C).isSome && (decide (PySem.W.mroIn K C (.ref C) = some true) && (He.eqO (PySem.W.ks_superIn K C C "__init__") (some (some (.ref f2))) && (PySem.W.fnIn K f2 && (He.eqO (PySem.W.nsIn K cStatics "thirdparty.any") (some none) &&
  (match K.lookup f2 with
    | some ⟨.type t, _, _, _⟩ => decide (t = "function")
    | _ => false))))))
theorem supB_ok {K : PySem.W.Frag} {P : Program} {mg : Str → Option Value} {file : Str} {fi C f2 : Addr} {slf : Str} {cda : Addr} {cl : List (Str × Addr)} {oc : Value} {od : Option Addr} {osl : Array (Option Value)} {fd : FuncData} (h : supB K file fi C f2 = true) (lk : K.lookup fi = some ⟨oc, od, .func fd, osl⟩) (hcl : fd.closure = cl) (hco : fd.code = .ref cda)
    (hf : P.main.file = file) (hh : ∃ ar, (fd.params.posonlyargs ++ fd.params.args).head? = some ar ∧ ar.arg = slf) (hs : mg "super" = none) (ht : (P.main.scope.names.lookup ("super" : Str)).isSome = false) : ∃ nm cc, cl = [(nm, cc)] ∧ SupOk P K mg fi cda cc C C f2 slf := by
  obtain ⟨h1, h⟩ := ba h
  obtain ⟨h2, h⟩ := ba h
  obtain ⟨h3, h⟩ := ba h
  obtain ⟨h4, h⟩ := ba h
  obtain ⟨h5, h⟩ := ba h
  obtain ⟨h6, h7⟩ := ba h
  rw [lk] at h1
  simp only at h1
  rw [hcl, hco] at h1
  split at h1
  · rename_i x0 x00 nm cc cda' e2
    cases e2
    split at h1
    · rename_i x1 x2 D x3 x4 x5 vs x6 l1 l2
      obtain ⟨g1, g2⟩ := ba h1
      have eD := of_decide_eq_true g1
      subst eD
      split at g2
      · rename_i f t ev
        refine ⟨nm, cc, rfl, ⟨?_, ?_, ⟨_, _, _, l1⟩, ?_, of_decide_eq_true h3, hs, ht, He.eqO_ok h4, h5, ?_, He.eqO_ok h6⟩⟩
        · obtain ⟨ar, a1, a2⟩ := hh
          exact ⟨_, _, _, fd, ar, lk, a1, a2⟩
        · exact ⟨_, _, vs, _, f, t, l2, ev, by rw [hf]; exact g2⟩
        · exact Option.isSome_iff_exists.mp h2
        · split at h7
          · rename_i t a b c q
            exact ⟨_, q, by rw [of_decide_eq_true h7]⟩
          · cases h7
      · cases g2
    · cases h1
  · cases h1
end Mn

-- Mn27b
set_option Elab.async false
set_option linter.all false
set_option maxRecDepth 100000
set_option maxHeartbeats 2000000
set_option autoImplicit false
namespace Mn
open PySem PySem.Spec L2 PyProof.Rows NdefX
open He (ga ma fAd ba cT)
theorem mem_lk {α β : Type} [BEq α] [LawfulBEq α] {a : α} {b : β} : ∀ {l : List (α × β)}, l.lookup a = some b → (a, b) ∈ l
  | [], h => by cases h
  | (c, d) :: r, h => by
    rw [List.lookup_cons] at h
    cases q : a == c with
    | true =>
      rw [q] at h
      cases h
      rw [eq_of_beq q]
      exact List.mem_cons_self
    | false =>
      rw [q] at h
      exact List.mem_cons_of_mem _ (mem_lk h)
theorem ga_eq (K : PySem.W.Frag) (x : Str) : gaK K x = ga K x := rfl
/-! ### own classes -/
def ownB (K : PySem.W.Frag) (Γ : Gam) (C : Str) : Bool := PySem.W.selfFirst K (ga K C) && (He.eqO (PySem.W.findIn K (.ref (ga K C)) "__rand__") (some none) && (He.eqO (PySem.W.findIn K (.ref (ga K C)) "__ror__") (some none) && (He.eqO (PySem.W.findIn K (.ref (ga K C)) "__ne__") (some (some (.builtin "object.__ne__"))) &&
  (decide (PySem.W.mroIn K (ga K C) (.type "object") = some true) && ((blt7.all fun T => decide (PySem.W.mroIn K (ga K C) (.type T) = some false)) && ((blt7.all fun T => decide (PySem.W.subIn K (.type T) (.ref (ga K C)) = some false)) &&
  ((Γ.mth.all fun e => decide (e.1.1 = C) || (!decide (ga K e.1.1 = ga K C) && decide (PySem.W.subIn K (.ref (ga K e.1.1)) (.ref (ga K C)) = some false))) && (He.Fa.cls C).ok K)))))))
theorem ownB_ok {K : PySem.W.Frag} {Γ : Gam} {C : Str} (h : ownB K Γ C = true) : OwnC K Γ C := by
  obtain ⟨h1, h⟩ := ba h
  obtain ⟨h2, h⟩ := ba h
  obtain ⟨h3, h⟩ := ba h
  obtain ⟨h4, h⟩ := ba h
  obtain ⟨h5, h⟩ := ba h
  obtain ⟨h6, h⟩ := ba h
  obtain ⟨h7, h⟩ := ba h
  obtain ⟨h8, h9⟩ := ba h
  refine ⟨h1, He.eqO_ok h2, He.eqO_ok h3, He.eqO_ok h4, of_decide_eq_true h5, fun T hT => of_decide_eq_true (List.all_eq_true.mp h6 T hT), fun T hT => of_decide_eq_true (List.all_eq_true.mp h7 T hT), fun D m f e ne => ?_, He.cls_ok h9⟩
  have := List.all_eq_true.mp h8 _ (mem_lk e)
  rcases Bool.or_eq_true_iff.mp this with z | z
  · exact absurd (of_decide_eq_true z) ne
  · obtain ⟨z1, z2⟩ := ba z
    refine ⟨fun q => ?_, of_decide_eq_true z2⟩
    have q' : ga K D = ga K C := q
    simp [q'] at z1
def mthB (K : PySem.W.Frag) (Γ : Gam) (fa : Nat → Addr) : Bool := Γ.mth.all fun e => ownB K Γ e.1.1 && (He.eqO (PySem.W.findIn K (.ref (ga K e.1.1)) e.1.2) (some (some (.ref (fa e.2)))) && PySem.W.isFn K (.ref (fa e.2)))
def subB (K : PySem.W.Frag) (Γ : Gam) : Bool := Γ.sub.all fun e => ((List.range Γ.ocl.length).all fun c => decide (PySem.W.kitOne K (.ref (ga K e.1)) (.ref (ga K (gname Γ.ocl c))) = some (e.2.contains c))) && ((He.Fa.cls e.1).ok K &&
  (He.eqO (PySem.W.findIn K (.ref (ga K e.1)) (Str.ofString "__class__")) (some (some (.builtin "object.__class__"))) && decide (PySem.W.mroIn K (ga K e.1) (.type "object") = some true)))
def getB (K : PySem.W.Frag) : Bool := He.eqO (PySem.W.specialIn K (.builtin "object.__class__") (Str.ofString "__get__")) (some (some (.builtin "getset_descriptor.__get__"))) && decide (PySem.W.takesIn K (.builtin "object.__class__") = some true)
def sub0B (K : PySem.W.Frag) (Γ : Gam) : Bool := blt7.all fun T => (List.range Γ.ocl.length).all fun c => decide (PySem.W.kitOne K (.type T) (.ref (ga K (gname Γ.ocl c))) = some false)
def prpB (K : PySem.W.Frag) (i : PrI) : Bool := He.eqO (PySem.W.findIn K (.ref (ga K i.C)) i.f) (some (some (.ref (ma K (ga K i.C) i.f)))) && (He.eqO (PySem.W.specialIn K (.ref (ma K (ga K i.C) i.f)) "__get__") (some (some (.builtin "property.__get__"))) &&
  (decide (PySem.W.takesIn K (.ref (ma K (ga K i.C) i.f)) = some true) && ((match PySem.W.recIn K (ma K (ga K i.C) i.f) "property" with
    | some (.ref _ :: _) => true
    | _ => false) && (codB K (gAd K i.C i.f) i.q && ((He.Fa.cls i.C).ok K && (He.Fa.noat i.C i.fld).ok K)))))
def Γprp (l : List PrI) : List (Str × Str × Str) := l.map fun i => (i.C, i.f, i.fld)
section
variable {Ω : Wd}
theorem prp_ok {i : PrI} (h : prpB Ω.K i = true) (c : clObs Ω.K i.d.C i.d.gt = i.d.val) : Cls Ω.K (gaK Ω.K i.C) ∧ ∃ p g fd, PropOf Ω.K (gaK Ω.K i.C) i.f p g ∧ FnOk Ω.P Ω.w Ω.K Ω.mg Ω.base C8.CX0 1 g fd ["self"] (getSp (gaK Ω.K i.C) i.fld) ∧ Binds Ω.K fd ["self"] [] := by
  obtain ⟨h1, h⟩ := ba h
  obtain ⟨h2, h⟩ := ba h
  obtain ⟨h3, h⟩ := ba h
  obtain ⟨h4, h⟩ := ba h
  obtain ⟨h5, h⟩ := ba h
  obtain ⟨h6, h7⟩ := ba h
  have cl := He.cls_ok h6
  obtain ⟨oc, od, osl, cll, kV, doc, pm, an, cdv, ct, lk, ec⟩ := cl_ok c
  have e0 : cll = [] := by
    have : cll.map (·.1) = [] := ec
    cases cll with
    | nil => rfl
    | cons a b => cases this
  subst e0
  have lk : Ω.K.lookup (gAd Ω.K i.C i.f) = some ⟨oc, od, .func (PySem.W.fnOf i.f i.q (defArgs i.st) (defBody i.st) (defScope i.st) .none kV doc pm an cdv ct), osl⟩ := lk
  refine ⟨cl, ma Ω.K (ga Ω.K i.C) i.f, gAd Ω.K i.C i.f, _, ⟨He.eqO_ok h1, He.eqO_ok h2, of_decide_eq_true h3, ?_⟩, fn_getter (N := ["self"]) lk ?_ i.S rfl i.eb cl (He.noat_ok h7), Binds.all fun us hl => i.bo kV doc pm an cdv ct us hl⟩
  · unfold gAd
    split at h4
    · rename_i g rest q
      rw [q]
      exact ⟨rest, rfl⟩
    · cases h4
  · unfold codB at h5
    rw [lk] at h5
    exact h5
theorem owns_ok {prs : List PrI} (hp : Γprp prs = Ω.Γ.prp) (hf : ∀ f, f < Ω.Γ.ocl.length → Ω.mg (gname Ω.Γ.ocl f) = some (.ref (gaK Ω.K (gname Ω.Γ.ocl f)))) (h1 : mthB Ω.K Ω.Γ Ω.fa = true) (h2 : subB Ω.K Ω.Γ = true) (h3 : getB Ω.K = true) (h4 : sub0B Ω.K Ω.Γ = true) (h5 : prs.all (prpB Ω.K) = true) (hc : ∀ i ∈ prs, clObs Ω.K i.d.C i.d.gt = i.d.val) : OwnsW Ω := by
  refine ⟨fun C m f e => ?_, hf, fun C l e => ?_, ⟨He.eqO_ok (ba h3).1, of_decide_eq_true (ba h3).2⟩, fun T hT c hcc => ?_, fun C f fld hm => ?_⟩
  · obtain ⟨z1, z⟩ := ba (List.all_eq_true.mp h1 _ (mem_lk e))
    obtain ⟨z2, z3⟩ := ba z
    exact ⟨ownB_ok z1, He.eqO_ok z2, z3⟩
  · obtain ⟨z1, z⟩ := ba (List.all_eq_true.mp h2 _ (PySem.mem_of_lookup e))
    obtain ⟨z2, z⟩ := ba z
    obtain ⟨z3, z4⟩ := ba z
    exact ⟨fun c hcc => of_decide_eq_true (List.all_eq_true.mp z1 c (List.mem_range.mpr hcc)), He.cls_ok z2, He.eqO_ok z3, of_decide_eq_true z4⟩
  · exact of_decide_eq_true (List.all_eq_true.mp (List.all_eq_true.mp h4 T hT) c (List.mem_range.mpr hcc))
  · rw [← hp] at hm
    obtain ⟨i, hi, e⟩ := List.mem_map.mp hm
    cases e
    exact prp_ok (List.all_eq_true.mp h5 i hi) (hc i hi)
/-- what is looked at of a class that is made -/
def clsB (K : PySem.W.Frag) (Γ : Gam) (file : Str) (base : Str) (i : ClI Γ) : Bool := (He.Fa.mkr i.c.C).ok K && ((He.Fa.cls i.c.C).ok K && ((i.c.flds.all fun p => (He.Fa.noat i.c.C p.1).ok K) && (codB K (fAd K (i.c.C, some "__init__")) i.q && (match i.c.sup with
  | none => true
  | some (f, _) => supB K file (fAd K (i.c.C, some "__init__")) (ga K i.c.C) (fAd K (base, some "__init__")) && (He.Fa.noat i.c.C f).ok K))))
theorem cls_mk {file : Str} {si : SetI} (i : ClI Ω.Γ) (c : clObs Ω.K i.d.C i.d.gt = i.d.val) (h : clsB Ω.K Ω.Γ file si.C i = true) (hfi : Ω.P.main.file = file) (ht : (Ω.P.main.scope.names.lookup ("super" : Str)).isSome = false) (hs : Ω.mg "super" = none) (hsf : ∀ f e, i.c.sup = some (f, e) → f = si.fld)
    {fdS : FuncData} (FS : FunD Ω.K "__init__" si.q (defArgs si.st) (defBody si.st) (defScope si.st) [] [] (fAd Ω.K (si.C, some "__init__")) fdS) : ClsOk Ω (ga Ω.K i.c.C) i.c := by
  obtain ⟨h1, h⟩ := ba h
  obtain ⟨h2, h⟩ := ba h
  obtain ⟨h3, h⟩ := ba h
  obtain ⟨h4, h5⟩ := ba h
  have cl := He.cls_ok h2
  have mk := He.mkr_ok h1
  obtain ⟨oc, od, osl, cll, kV, doc, pm, an, cdv, ct, lk, ec⟩ := cl_ok c
  have lk : Ω.K.lookup (fAd Ω.K (i.c.C, some "__init__")) = some ⟨oc, od, .func (PySem.W.fnX "__init__" i.q (defArgs i.st) (defBody i.st) (defScope i.st) cll .none kV doc pm an cdv ct), osl⟩ := lk
  have hcd : PySem.W.codeIn Ω.K cdv i.q = true := by
    unfold codB at h4
    rw [lk] at h4
    exact h4
  obtain ⟨cda, rfl⟩ := He.codeIn_ref hcd
  have ec : cll.map (·.1) = clFr i.c := ec
  have sw : ∃ ws, SupW Ω ⟨"__init__", i.q, defArgs i.st, defBody i.st, defScope i.st, cll, cda⟩ (fAd Ω.K (i.c.C, some "__init__")) (ga Ω.K i.c.C) (clFr i.c) ws (gname i.N 0) i.P i.c.sup := by
    cases hsu : i.c.sup with
    | none =>
      have e0 : clFr i.c = [] := by unfold clFr; rw [hsu]; rfl
      rw [e0] at ec
      refine ⟨[], ?_, e0, rfl⟩
      show cll = []
      cases cll with
      | nil => rfl
      | cons a b => cases ec
    | some fe =>
      obtain ⟨f, e⟩ := fe
      have e0 : clFr i.c = [Str.ofString "__class__"] := by unfold clFr; rw [hsu]; rfl
      rw [hsu] at h5
      obtain ⟨h6, h7⟩ := ba h5
      obtain ⟨nm, cc, ecl, so⟩ := supB_ok (P := Ω.P) (mg := Ω.mg) (slf := gname i.N 0) h6 lk rfl rfl hfi i.hd hs ht
      obtain ⟨s1, s2, s3⟩ := i.su (by rw [hsu]; rfl)
      have en : nm = "__class__" := by
        have ecl' : cll = [(nm, cc)] := ecl
        rw [ecl', e0] at ec
        exact (List.cons.inj ec).1
      subst en
      refine ⟨[none], cc, _, _, ecl, e0, rfl, so, ?_, s3, s1, s2⟩
      obtain ⟨oc', od', dV', kV', doc', pm', an', cdv', ct', osl', rfl, lk', hcd', hD', hK'⟩ := FS.ex
      obtain rfl : dV' = .none := by
        rcases hD' with ⟨_, e⟩ | ⟨e, _⟩
        · exact e
        · exact absurd rfl e
      have hbo := si.bo kV' doc' pm' an' cdv' ct'
      rw [si.eb] at lk' hbo
      have ef : f = si.fld := hsf f e hsu
      rw [ef]
      rw [ef] at h7
      exact setOk_of (k := 0) lk' hcd' si.S cl (He.noat_ok h7) (fun s us hl => .of_eq (hbo us hl)) (by decide) (by decide) si.h3 si.h4
  obtain ⟨ws, sw⟩ := sw
  exact ⟨rfl, cl, i.nd, i.sz, fun p hp => He.noat_ok (List.all_eq_true.mp h3 p hp), ⟨"__init__", i.q, defArgs i.st, defBody i.st, defScope i.st, cll, cda⟩, _, i.N, i.ps, clFr i.c, ws, i.P, .none, kV, doc, pm, ct, oc, an, od, osl, mk, lk, i.eb.symm, hcd, i.S, sw, i.ns, i.np, i.p0, i.wb, i.ws, i.wf, i.vs,
    fun z s us hl => i.bo z cll kV doc pm an (.ref cda) ct s us hl, fun z => let ⟨p0, pv, e, q⟩ := i.bs z; ⟨p0, pv, e, fun u0 rest => q cll kV doc pm an (.ref cda) ct u0 rest⟩⟩
end
end Mn

-- Mn28
set_option Elab.async false
set_option linter.all false
set_option maxRecDepth 100000
set_option maxHeartbeats 2000000
set_option autoImplicit false
namespace Mn
open PySem PySem.Spec L2 PyProof.Rows
open He (ga ma fAd ba cT)
/-- the text of the errors' __init__ -/
structure IniI (hld : Str) where
  st : Stmt
  q : Str
  p1 : Pos
  p2 : Pos
  p3 : Pos
  p4 : Pos
  eb : defBody st = [.Assign [.Attribute (.Name "self" p1) "value" p2] (.Name "value" p3) p4]
  S : FnScope ["self", "value"] ["self", "value"] (defScope st)
  bo : ∀ (T : Addr) (kV doc pm : Value) (an : Option Addr) (cdv ct : Value) (us its : List Value), us.length = 2 → its.length = 1 →
      ∃ k, bindArgs (PySem.W.fnOf "__init__" q (defArgs st) (defBody st) (defScope st) (.ref T) kV doc pm an cdv ct) ⟨us, []⟩ = seqItems? (.ref T) >>= k ∧ k (some its.toArray) = pure ((["self", "value"] : List Str).zip (us ++ its.drop 1))
def IniI.d {hld : Str} (i : IniI hld) : He.DefD := ⟨(hld, some "__init__"), "__init__", i.q, defArgs i.st, defBody i.st, defScope i.st, [.non], []⟩
inductive El (Γ : Gam) where
  | no | df (i : DefI Γ) | cl (i : ClI Γ)
def El.ent {Γ : Gam} : El Γ → Ent
  | .no => .no
  | .df i => .fn i.F
  | .cl i => .cls i.c
def El.at_ {Γ : Gam} : El Γ → He.Defn
  | .no => (Γ.told, none)
  | .df i => i.at_
  | .cl i => (i.c.C, none)
/-- all that stands written of a law -/
structure Txt where
  Γ : Gam
  els : List (El Γ)
  prs : List PrI
  gl : List GlD
  hld : Str
  file : Str
  si : SetI
  ii : IniI hld
section
variable (t : Txt)
def Txt.fns : List Ent := t.els.map El.ent
def Txt.gd : Gd := ⟨t.gl.map (·.d), t.Γ.prp, t.Γ.mth, t.Γ.sub, t.Γ.ocl.length⟩
def Txt.fa : List He.Fa := t.Γ.fns.map He.Fa.glo ++ t.Γ.ocl.map He.Fa.glo
def Txt.fn : List He.DefD := t.si.d :: t.ii.d :: t.els.filterMap fun o => match o with
  | .df i => some i.d
  | _ => none
def Txt.cl : List ClD := (t.els.filterMap fun o => match o with
  | .cl i => some i.d
  | _ => none) ++ t.prs.map PrI.d
def Txt.tf : List He.Defn := t.els.filterMap fun o => match o with
  | .df i => if i.lm then some (i.x, none) else none
  | _ => none
def Txt.fA (K : PySem.W.Frag) (f : Nat) : Addr := fAd K ((t.els.map El.at_).getD f ("", none))
def Txt.ex (K : PySem.W.Frag) : Bool := gfB K && (((t.Γ.gls.zip t.gl).all fun p => p.2.ok K p.1) && (decide ((t.tf.map fun p => (cT K p).2).Nodup) && ((He.Fa.glo t.hld).ok K && ((t.Γ.cls.all fun x => errB K t.hld x) && (emB K t.Γ.cls &&
  ((t.Γ.fns.all fun x => PySem.W.keepIn K (.ref (ga K x))) && (mthB K t.Γ (t.fA K) && (subB K t.Γ && (getB K && (sub0B K t.Γ && (t.prs.all (prpB K) && (t.els.all fun o => match o with
  | .cl i => clsB K t.Γ t.file t.si.C i
  | _ => true))))))))))))
def Txt.W (P : Program) (w : World) (K : PySem.W.Frag) (mg : Str → Option Value) (base : Heap) : Wd :=
  ⟨P, w, K, mg, base, t.Γ, t.tf.map fun p => ((cT K p).2, lamN p.1), fun g => (t.gl.getD g (.int 0)).v K (gname t.Γ.gls g), t.fA K, fun c => ga K (gname t.Γ.cls c)⟩
/-- what fits together of it, looked at once -/
structure Txt.Ok : Prop where
  nm : (t.els.take t.Γ.fns.length).map El.at_ = t.Γ.fns.map fun x => (x, none)
  ks : ∀ (f : Nat) (i : DefI t.Γ), t.els[f]? = some (.df i) → (t.Γ.kws.filter fun p => p.1 == f).map (·.2) = i.ks
  kc : ∀ p ∈ t.Γ.kws, ∀ i : ClI t.Γ, t.els[p.1]? ≠ some (.cl i)
  gl : t.gl.length = t.Γ.gls.length
  cn : t.Γ.cls.Nodup
  pr : Γprp t.prs = t.Γ.prp
  sf : ∀ i : ClI t.Γ, .cl i ∈ t.els → ∀ f e, i.c.sup = some (f, e) → f = t.si.fld
end
section
variable {t : Txt} {P : Program} {w : World} {K : PySem.W.Frag} {h base : Heap} {mg : Str → Option Value}
theorem gname_mem {l : List Str} {c : Nat} (hcc : c < l.length) : gname l c ∈ l := by
  unfold gname
  rw [List.getD_eq_getElem?_getD, List.getElem?_eq_getElem hcc]
  exact List.getElem_mem hcc
theorem gname_inj {l : List Str} (nd : l.Nodup) {c d : Nat} (hc : c < l.length) (hd : d < l.length) (e : gname l c = gname l d) : c = d := by
  unfold gname at e
  rw [List.getD_eq_getElem?_getD, List.getElem?_eq_getElem hc, List.getD_eq_getElem?_getD, List.getElem?_eq_getElem hd] at e
  exact (List.getElem_inj nd).mp e
theorem fA_nm (o : t.Ok) {f : Nat} (hf : f < t.Γ.fns.length) : t.fA K f = ga K (gname t.Γ.fns f) := by
  have e1 := congrArg (fun l : List He.Defn => l[f]?) o.nm
  simp only [List.getElem?_map] at e1
  rw [List.getElem?_take_of_lt hf, List.getElem?_eq_getElem hf] at e1
  unfold Txt.fA gname
  rw [List.getD_eq_getElem?_getD, List.getElem?_map, e1, List.getD_eq_getElem?_getD, List.getElem?_eq_getElem hf]
  rfl
theorem fA_at {f : Nat} {e : El t.Γ} (he : t.els[f]? = some e) : t.fA K f = fAd K e.at_ := by
  unfold Txt.fA
  rw [List.getD_eq_getElem?_getD, List.getElem?_map, he]
  rfl
theorem tf_mem {i : DefI t.Γ} {f : Nat} (e : t.els[f]? = some (.df i)) (hl : i.lm = true) : (i.x, none) ∈ t.tf := by
  unfold Txt.tf
  rw [List.mem_filterMap]
  exact ⟨.df i, List.mem_of_getElem? e, by simp [hl]⟩
theorem nodup_map_inj {α β : Type} {f : α → β} : ∀ {l : List α}, (l.map f).Nodup → ∀ {a b : α}, a ∈ l → b ∈ l → f a = f b → a = b
  | [], _, a, b, ha, _, _ => by cases ha
  | x :: l, h, a, b, ha, hb, e => by
    rw [List.map_cons, List.nodup_cons] at h
    rcases List.mem_cons.mp ha with ea | ma
    · rcases List.mem_cons.mp hb with eb | mb
      · rw [ea, eb]
      · exact absurd (List.mem_map.mpr ⟨b, mb, by rw [← e, ea]⟩) h.1
    · rcases List.mem_cons.mp hb with eb | mb
      · exact absurd (List.mem_map.mpr ⟨a, ma, by rw [e, eb]⟩) h.1
      · exact nodup_map_inj h.2 ma mb e
theorem gl_of2 (hg : ((t.Γ.gls.zip t.gl).all fun p => p.2.ok K p.1) = true) (o : t.Ok) {g : Nat} (hl : g < t.Γ.gls.length) : ∃ d, t.gl[g]? = some d ∧ d.ok K (gname t.Γ.gls g) = true := by
  have h2 : g < t.gl.length := by rw [o.gl]; exact hl
  refine ⟨t.gl[g], List.getElem?_eq_getElem h2, ?_⟩
  have := List.all_eq_true.mp hg (t.Γ.gls[g], t.gl[g]) (List.mem_iff_getElem.mpr ⟨g, by rw [List.length_zip]; omega, by rw [List.getElem_zip]⟩)
  unfold gname
  rw [List.getD_eq_getElem?_getD, List.getElem?_eq_getElem hl]
  exact this
theorem ent_fn {f : Nat} {F : Fn} (e : t.fns[f]? = some (.fn F)) : ∃ i, t.els[f]? = some (.df i) ∧ i.F = F := by
  unfold Txt.fns at e
  rw [List.getElem?_map] at e
  obtain ⟨x, e1, e2⟩ := Option.map_eq_some_iff.mp e
  cases x with
  | no => cases e2
  | df i => cases e2; exact ⟨i, e1, rfl⟩
  | cl i => cases e2
theorem ent_cl {f : Nat} {c : Cl} (e : t.fns[f]? = some (.cls c)) : ∃ i, t.els[f]? = some (.cl i) ∧ i.c = c := by
  unfold Txt.fns at e
  rw [List.getElem?_map] at e
  obtain ⟨x, e1, e2⟩ := Option.map_eq_some_iff.mp e
  cases x with
  | no => cases e2
  | df i => cases e2
  | cl i => cases e2; exact ⟨i, e1, rfl⟩
/-- the law's own part of the end: told's promise; all else comes from the text -/
theorem law_mk {fnx : List He.DefD} (o : t.Ok) (X : K.In h) (G : h.Ns mainGlobals mg) (s : SaysM t.fa (fnx ++ t.fn) t.cl t.tf t.ex w h K) (hfi : P.main.file = t.file) (htp : (P.main.scope.names.lookup ("super" : Str)).isSome = false)
    (TB : ∀ p ∈ t.tf, LamX.TabB base mg (cT K p).1 (cT K p).2) (sys : ∃ o, base.get? sysModules = some o ∧ o.cls ≠ .type "list")
    {tf : EO → Option EO} {tsp : (XK → TE) → TE} (tl : ∀ N lv, TellOk (t.W P w K mg base) N lv tsp)
    (td : ∀ (n : Nat) (tt : XK → TE) (W : WX) (δ : List Sl) (o o' : EO), (∀ E : XK, SE (t.W P w K mg base) (tt E) (fun c d _ H => E c d H) n δ o) → tf o = some o' → SE (t.W P w K mg base) (tsp tt) W n δ o') :
    Law (t.W P w K mg base) t.fns tf t.gd tsp := by
  have c : He.SaysD t.fa (fnx ++ t.fn) K := congrArg (fun z : He.AlT => z.1) s.t
  obtain ⟨g1, ex⟩ := ba s.more
  obtain ⟨g2, ex⟩ := ba ex
  obtain ⟨g3, ex⟩ := ba ex
  obtain ⟨g4, ex⟩ := ba ex
  obtain ⟨g5, ex⟩ := ba ex
  obtain ⟨g6, ex⟩ := ba ex
  obtain ⟨g7, ex⟩ := ba ex
  obtain ⟨g8, ex⟩ := ba ex
  obtain ⟨g9, ex⟩ := ba ex
  obtain ⟨g10, ex⟩ := ba ex
  obtain ⟨g11, ex⟩ := ba ex
  obtain ⟨g12, g13⟩ := ba ex
  have inF : ∀ (f : Nat) (i : DefI t.Γ), t.els[f]? = some (.df i) → i.d ∈ fnx ++ t.fn := fun f i e => by
    refine List.mem_append_right _ (List.mem_cons_of_mem _ (List.mem_cons_of_mem _ ?_))
    exact List.mem_filterMap.mpr ⟨.df i, List.mem_of_getElem? e, rfl⟩
  obtain ⟨fdI, FI⟩ := c.defs (d := t.ii.d) (List.mem_append_right _ (List.mem_cons_of_mem _ List.mem_cons_self))
  obtain ⟨fdS, FS⟩ := c.defs (d := t.si.d) (List.mem_append_right _ List.mem_cons_self)
  have ini : IniOk (t.W P w K mg base) (fAd K (t.hld, some "__init__")) := ini_of (Ω := t.W P w K mg base) (st := t.ii.st) FI t.ii.eb t.ii.S t.ii.bo
  refine ⟨fun g hg => ?_, fun b => gf_ok X G g1 (bi_boot b).1 (bi_boot b).2, gf_nm X G g1 (by simp), gf_nm X G g1 (by simp), gf_nm X G g1 (by simp), sys, gf_ty X G g1, fun f hf => ?_, fun f F e => ?_, fun f cc e => ?_, fun p hp cc e => ?_, tl, rai_ok fun cc hcc => ?_, rfl, rfl, rfl, rfl, ?_, fun g d e H => ?_, td⟩
  · obtain ⟨d, e, ok⟩ := gl_of2 g2 o hg
    obtain ⟨u, e1, e2⟩ := GlD.mg_ok X G ok
    refine ⟨u, e1, ?_⟩
    show RelV ((t.gl.getD g (.int 0)).v K _) u
    rw [List.getD_eq_getElem?_getD, e]
    exact e2
  · have hf : f < t.Γ.fns.length := hf
    show mg (gname t.Γ.fns f) = some (.ref (t.fA K f)) ∧ PySem.W.keepIn K (.ref (t.fA K f)) = true
    rw [fA_nm o hf]
    exact ⟨He.glo_ok X G (c.facts (List.mem_append_left _ (List.mem_map.mpr ⟨_, gname_mem hf, rfl⟩))), List.all_eq_true.mp g7 _ (gname_mem hf)⟩
  · obtain ⟨i, e1, rfl⟩ := ent_fn e
    obtain ⟨fd, FD⟩ := c.defs (inF f i e1)
    refine ⟨i.x, i.q, i.N, i.ps, defScope i.st, i.lm, ?_⟩
    show DefOk (t.W P w K mg base) i.x i.q (t.fA K f) i.F i.N i.ps (defScope i.st) i.lm ((t.Γ.kws.filter fun p => p.1 == f).map (·.2))
    rw [o.ks f i e1, fA_at e1]
    refine def_mk (Ω := t.W P w K mg base) i FD rfl fun z => ?_
    have hm := tf_mem e1 z
    refine ⟨TB _ hm, List.mem_map.mpr ⟨_, hm, rfl⟩, fun p hp ep => ?_⟩
    obtain ⟨q, hq, rfl⟩ := List.mem_map.mp hp
    have : q = (i.x, none) := nodup_map_inj (of_decide_eq_true g3) hq hm ep
    rw [this]
  · obtain ⟨i, e1, rfl⟩ := ent_cl e
    show ClsOk (t.W P w K mg base) (t.fA K f) i.c
    rw [fA_at e1]
    have hm := List.mem_of_getElem? e1
    exact cls_mk (Ω := t.W P w K mg base) (file := t.file) (si := t.si) i (s.cls (d := i.d) (List.mem_append_left _ (List.mem_filterMap.mpr ⟨.cl i, hm, rfl⟩))) (List.all_eq_true.mp g13 _ hm) hfi htp (gf_nm X G g1 (by simp)) (o.sf i hm) FS
  · obtain ⟨i, e1, _⟩ := ent_cl e
    exact o.kc p hp i e1
  · have hcc : cc < t.Γ.cls.length := hcc
    have E := errB_ok (List.all_eq_true.mp g5 _ (gname_mem hcc))
    exact ⟨He.glo_ok X G E.glo, E.oex, E.val, _, E.ini, E.ity, ini⟩
  · refine owns_ok (Ω := t.W P w K mg base) (prs := t.prs) o.pr (fun f hf => He.glo_ok X G (c.facts (List.mem_append_right _ (List.mem_map.mpr ⟨_, gname_mem hf, rfl⟩)))) g8 g9 g10 g11 g12 fun i hi => s.cls (d := i.d) (List.mem_append_right _ (List.mem_map.mpr ⟨i, hi, rfl⟩))
  · have e : (t.gl.map (·.d))[g]? = some d := e
    rw [List.getElem?_map] at e
    obtain ⟨gg, e1, e2⟩ := Option.map_eq_some_iff.mp e
    have hl : g < t.Γ.gls.length := by
      rw [← o.gl]
      exact (List.getElem?_eq_some_iff.mp e1).1
    obtain ⟨d', e3, ok⟩ := gl_of2 g2 o hl
    rw [e1] at e3
    cases e3
    subst e2
    show Den K H ((t.gl.getD g (.int 0)).v K _) gg.d
    rw [List.getD_eq_getElem?_getD, e1]
    exact GlD.den ok H
/-- a law without lambdas -/
theorem law_at0 (o : t.Ok) (h0 : t.tf = []) {n k f : Nat} (X : K.In h) (G : h.Ns mainGlobals mg) (s : SaysM t.fa t.fn t.cl t.tf t.ex w h K) (hfi : P.main.file = t.file) (htp : (P.main.scope.names.lookup ("super" : Str)).isSome = false) {a : Addr} (hf : f < t.Γ.fns.length) (hmg : mg (gname t.Γ.fns f) = some (.ref a))
    (ev : ∀ ns : List Int, ns.length ≤ n → (∀ z ∈ ns, Builtin.Int.intBits z ≤ 1048576) → ∃ ps, run t.fns (fun _ => none) t.gd k f [.val (.rol (ns.map D.int))] = some (.ret (.val (.bl true)) ps)) : LawAt P w K k n mg a h := by
  have c : He.SaysD t.fa t.fn K := congrArg (fun z : He.AlT => z.1) s.t
  refine ⟨[], fun _ => "", (fun p hp => by cases hp), (fun p hp => by cases hp), (fun p hp => by cases hp), fun base Xb Gb TB sys => ?_⟩
  have L := law_mk (fnx := []) (P := P) (w := w) (base := base) o X G s hfi htp (fun p hp => by rw [h0] at hp; cases hp) sys (tf := fun _ => none) (tsp := fun _ => noE) (fun N lv sc X gd hlm ar body scope tt q lp p _ _ _ _ => ⟨fun _ _ _ _ _ _ z => z.elim⟩) (fun n tt W δ o o' _ z => by cases z)
  refine ⟨t.Γ, (t.W P w K mg base).gv, (t.W P w K mg base).fa, (t.W P w K mg base).ca, t.fns, fun _ => none, t.gd, fun _ => noE, f, ?_, ?_, hf, ev⟩
  · have e : (([] : List (Addr × Addr)).map fun p => (p.2, (fun _ => "" : Addr × Addr → Str) p)) = t.tf.map fun p => ((cT K p).2, lamN p.1) := by rw [h0] <;> rfl
    rw [e]
    exact L
  · show t.fA K f = a
    rw [fA_nm o hf]
    have : mg (gname t.Γ.fns f) = some (.ref (ga K (gname t.Γ.fns f))) := He.glo_ok X G (c.facts (List.mem_append_left _ (List.mem_map.mpr ⟨_, gname_mem hf, rfl⟩)))
    rw [hmg] at this
    cases this
    rfl
end
theorem ks_of {t : Txt} (h : (t.els.zipIdx.all fun p => match p.1 with | .df i => decide ((t.Γ.kws.filter fun q => q.1 == p.2).map (·.2) = i.ks) | .cl _ => decide (t.Γ.kws.all fun q => !(q.1 == p.2)) | .no => true) = true) (f : Nat) (i : DefI t.Γ) (e : t.els[f]? = some (.df i)) : (t.Γ.kws.filter fun p => p.1 == f).map (·.2) = i.ks := by
  have := List.all_eq_true.mp h (.df i, f) (List.mem_zipIdx_iff_getElem?.mpr e)
  exact of_decide_eq_true this
theorem kc_of {t : Txt} (h : (t.els.zipIdx.all fun p => match p.1 with | .df i => decide ((t.Γ.kws.filter fun q => q.1 == p.2).map (·.2) = i.ks) | .cl _ => decide (t.Γ.kws.all fun q => !(q.1 == p.2)) | .no => true) = true) (p : Nat × List Str) (hp : p ∈ t.Γ.kws) (i : ClI t.Γ) : t.els[p.1]? ≠ some (.cl i) := fun e => by
  have := List.all_eq_true.mp h (.cl i, p.1) (List.mem_zipIdx_iff_getElem?.mpr e)
  have := List.all_eq_true.mp (of_decide_eq_true this) p hp
  simp at this
def sfB (t : Txt) : Bool := t.els.all fun e => match e with
  | .cl i => (match i.c.sup with
    | some (f, _) => decide (f = t.si.fld)
    | none => true)
  | _ => true
theorem sf_of {t : Txt} (h : sfB t = true) (i : ClI t.Γ) (hi : .cl i ∈ t.els) (f : Str) (e : E) (hs : i.c.sup = some (f, e)) : f = t.si.fld := by
  have z := List.all_eq_true.mp h _ hi
  simp only [hs] at z
  exact of_decide_eq_true z
end Mn

-- K13a
set_option Elab.async false
set_option linter.all false
set_option maxRecDepth 100000
set_option maxHeartbeats 4000000
set_option autoImplicit false
namespace K13
open PySem Mn
def gam : Gam := ⟨[(Str.ofString "is_end"), (Str.ofString "is_place"), (Str.ofString "want_term"), (Str.ofString "want_terms"), (Str.ofString "depth_above"), (Str.ofString "term_text"), (Str.ofString "term_repr"), (Str.ofString "_law_pot"), (Str.ofString "_law_draw"), (Str.ofString "_law_pick"), (Str.ofString "_law_places"), (Str.ofString "_law_term"), (Str.ofString "_law_joined"), (Str.ofString "_law_real"), (Str.ofString "_law_inner"), (Str.ofString "_law_text"), (Str.ofString "_law_written"), (Str.ofString "_law_bent"), (Str.ofString "_law_signs_right"), (Str.ofString "_law_right"), (Str.ofString "law"), (Str.ofString "Place"), (Str.ofString "End"), (Str.ofString "Lesser"), (Str.ofString "Greater")], [(Str.ofString "BOTTOM"), (Str.ofString "TOP"), (Str.ofString "ENDS"), (Str.ofString "PLACES"), (Str.ofString "LEAST_PARTS")], [(Str.ofString "InvalidPlace"), (Str.ofString "InvalidEnd"), (Str.ofString "InvalidTerm")], [], (Str.ofString "_law_told"), [(Str.ofString "Term"), (Str.ofString "Place"), (Str.ofString "End"), (Str.ofString "Lesser"), (Str.ofString "Greater")], [(((Str.ofString "Place"), (Str.ofString "__and__")), 25), (((Str.ofString "Place"), (Str.ofString "__or__")), 26), (((Str.ofString "Place"), (Str.ofString "__str__")), 27), (((Str.ofString "Place"), (Str.ofString "__repr__")), 28), (((Str.ofString "Place"), (Str.ofString "__eq__")), 29), (((Str.ofString "End"), (Str.ofString "__and__")), 25), (((Str.ofString "End"), (Str.ofString "__or__")), 26), (((Str.ofString "End"), (Str.ofString "__str__")), 27), (((Str.ofString "End"), (Str.ofString "__repr__")), 28), (((Str.ofString "End"), (Str.ofString "__eq__")), 29), (((Str.ofString "Lesser"), (Str.ofString "__and__")), 25), (((Str.ofString "Lesser"), (Str.ofString "__or__")), 26), (((Str.ofString "Lesser"), (Str.ofString "__str__")), 27), (((Str.ofString "Lesser"), (Str.ofString "__repr__")), 28), (((Str.ofString "Lesser"), (Str.ofString "__eq__")), 29), (((Str.ofString "Greater"), (Str.ofString "__and__")), 25), (((Str.ofString "Greater"), (Str.ofString "__or__")), 26), (((Str.ofString "Greater"), (Str.ofString "__str__")), 27), (((Str.ofString "Greater"), (Str.ofString "__repr__")), 28), (((Str.ofString "Greater"), (Str.ofString "__eq__")), 29)], [((Str.ofString "Place"), (Str.ofString "depth"), (Str.ofString "own_depth")), ((Str.ofString "Place"), (Str.ofString "name"), (Str.ofString "own_name")), ((Str.ofString "End"), (Str.ofString "depth"), (Str.ofString "own_depth")), ((Str.ofString "End"), (Str.ofString "end"), (Str.ofString "own_end")), ((Str.ofString "Lesser"), (Str.ofString "depth"), (Str.ofString "own_depth")), ((Str.ofString "Lesser"), (Str.ofString "parts"), (Str.ofString "own_parts")), ((Str.ofString "Greater"), (Str.ofString "depth"), (Str.ofString "own_depth")), ((Str.ofString "Greater"), (Str.ofString "parts"), (Str.ofString "own_parts"))], [((Str.ofString "Place"), [0, 1]), ((Str.ofString "End"), [0, 2]), ((Str.ofString "Lesser"), [0, 3]), ((Str.ofString "Greater"), [0, 4])]⟩
/-! is_end : top 10 -/
def n10 : List Str := [(Str.ofString "value")]
def b10 : Ss := (.cons (.ret (.bop .And (.cons (.isi (.var 0 ⟨20, 22, 20, 27⟩) "str" ⟨20, 29, 20, 32⟩ ⟨20, 11, 20, 21⟩ ⟨20, 11, 20, 33⟩) (.cons (.cmp .In (.var 0 ⟨20, 38, 20, 43⟩) (.glo 2 ⟨20, 47, 20, 51⟩) ⟨20, 38, 20, 51⟩) .nil)) ⟨20, 11, 20, 51⟩) ⟨20, 4, 20, 51⟩) .nil)
/-! is_place : top 14 -/
def n14 : List Str := [(Str.ofString "value")]
def b14 : Ss := (.cons (.ret (.bop .And (.cons (.isi (.var 0 ⟨25, 22, 25, 27⟩) "str" ⟨25, 29, 25, 32⟩ ⟨25, 11, 25, 21⟩ ⟨25, 11, 25, 33⟩) (.cons (.cmp .In (.var 0 ⟨25, 38, 25, 43⟩) (.glo 3 ⟨25, 47, 25, 53⟩) ⟨25, 38, 25, 53⟩) .nil)) ⟨25, 11, 25, 53⟩) ⟨25, 4, 25, 53⟩) .nil)
/-! want_term : top 15 -/
def n15 : List Str := [(Str.ofString "value")]
def b15 : Ss := (.cons (.iff (.nt (.isc (.var 0 ⟨27, 22, 27, 27⟩) 0 ⟨27, 29, 27, 33⟩ ⟨27, 11, 27, 21⟩ ⟨27, 11, 27, 34⟩) ⟨27, 7, 27, 34⟩) (.cons (.raise 2 ⟨28, 14, 28, 25⟩ (.var 0 ⟨28, 26, 28, 31⟩) ⟨28, 14, 28, 32⟩ ⟨28, 8, 28, 32⟩) .nil) .nil ⟨27, 4, 28, 32⟩) .nil)
/-! want_terms : top 16 -/
def n16 : List Str := [(Str.ofString "values"), (Str.ofString "value")]
def b16 : Ss := (.cons (.fr 1 ⟨30, 8, 30, 13⟩ (.seq (.var 0 ⟨30, 17, 30, 23⟩)) (.cons (.exp (.call 2 ⟨31, 8, 31, 17⟩ (.cons (.var 1 ⟨31, 18, 31, 23⟩) .nil) ⟨31, 8, 31, 24⟩) ⟨31, 8, 31, 24⟩) .nil) ⟨30, 4, 31, 24⟩) .nil)
/-! depth_above : top 17 -/
def n17 : List Str := [(Str.ofString "terms"), (Str.ofString "term")]
def b17 : Ss := (.cons (.iff (.cmp .Lt (.bi .len ⟨33, 7, 33, 10⟩ (.cons (.var 0 ⟨33, 11, 33, 16⟩) .nil) ⟨33, 7, 33, 17⟩) (.glo 4 ⟨33, 20, 33, 31⟩) ⟨33, 7, 33, 31⟩) (.cons (.raise 2 ⟨34, 14, 34, 25⟩ (.con .none 0 ⟨34, 26, 34, 30⟩) ⟨34, 14, 34, 31⟩ ⟨34, 8, 34, 31⟩) .nil) .nil ⟨33, 4, 34, 31⟩) (.cons (.exp (.call 3 ⟨35, 4, 35, 14⟩ (.cons (.var 0 ⟨35, 15, 35, 20⟩) .nil) ⟨35, 4, 35, 21⟩) ⟨35, 4, 35, 21⟩) (.cons (.ret (.bin .Add (.con (.int (1)) 0 ⟨36, 11, 36, 12⟩) (.bi .max ⟨36, 15, 36, 18⟩ (.cons (.lc (.att (.var 1 ⟨36, 20, 36, 24⟩) (Str.ofString "depth") (Str.ofString "own_depth") ⟨36, 20, 36, 30⟩) 1 ⟨36, 35, 36, 39⟩ (.seq (.var 0 ⟨36, 43, 36, 48⟩)) .nil { kind := .function, names := [((Str.ofString ".0"), .local), ((Str.ofString "term"), .local)], isGenerator := false, isCoroutine := false, more := [] } ⟨36, 19, 36, 49⟩) .nil) ⟨36, 15, 36, 50⟩) ⟨36, 11, 36, 50⟩) ⟨36, 4, 36, 50⟩) .nil)))
/-! term_text : top 18 -/
def n18 : List Str := [(Str.ofString "term"), (Str.ofString "texts"), (Str.ofString "part")]
def b18 : Ss := (.cons (.iff (.isc (.var 0 ⟨38, 18, 38, 22⟩) 1 ⟨38, 24, 38, 29⟩ ⟨38, 7, 38, 17⟩ ⟨38, 7, 38, 30⟩) (.cons (.ret (.att (.var 0 ⟨39, 15, 39, 19⟩) (Str.ofString "name") (Str.ofString "own_name") ⟨39, 15, 39, 24⟩) ⟨39, 8, 39, 24⟩) .nil) .nil ⟨38, 4, 39, 24⟩) (.cons (.iff (.isc (.var 0 ⟨40, 18, 40, 22⟩) 2 ⟨40, 24, 40, 27⟩ ⟨40, 7, 40, 17⟩ ⟨40, 7, 40, 28⟩) (.cons (.ret (.att (.var 0 ⟨41, 15, 41, 19⟩) (Str.ofString "end") (Str.ofString "own_end") ⟨41, 15, 41, 23⟩) ⟨41, 8, 41, 23⟩) .nil) .nil ⟨40, 4, 41, 23⟩) (.cons (.asg 1 ⟨42, 4, 42, 9⟩ (.lc (.ife (.cmp .Gt (.att (.var 2 ⟨42, 39, 42, 43⟩) (Str.ofString "depth") (Str.ofString "own_depth") ⟨42, 39, 42, 49⟩) (.con (.int (0)) 0 ⟨42, 52, 42, 53⟩) ⟨42, 39, 42, 53⟩) (.fst (.cons (.con (.str (Str.ofString "(")) 0 ⟨42, 15, 42, 16⟩) (.cons (.fmt (.call 5 ⟨42, 17, 42, 26⟩ (.cons (.var 2 ⟨42, 27, 42, 31⟩) .nil) ⟨42, 17, 42, 32⟩) false ⟨42, 16, 42, 33⟩) (.cons (.con (.str (Str.ofString ")")) 0 ⟨42, 33, 42, 34⟩) .nil))) ⟨42, 13, 42, 35⟩) (.call 5 ⟨42, 59, 42, 68⟩ (.cons (.var 2 ⟨42, 69, 42, 73⟩) .nil) ⟨42, 59, 42, 74⟩) ⟨42, 13, 42, 74⟩) 2 ⟨42, 79, 42, 83⟩ (.seq (.att (.var 0 ⟨42, 87, 42, 91⟩) (Str.ofString "parts") (Str.ofString "own_parts") ⟨42, 87, 42, 97⟩)) .nil { kind := .function, names := [((Str.ofString ".0"), .local), ((Str.ofString "part"), .local), ((Str.ofString "term_text"), .globalImplicit)], isGenerator := false, isCoroutine := false, more := [] } ⟨42, 12, 42, 98⟩) ⟨42, 4, 42, 98⟩) (.cons (.ret (.ife (.isc (.var 0 ⟨43, 43, 43, 47⟩) 3 ⟨43, 49, 43, 55⟩ ⟨43, 32, 43, 42⟩ ⟨43, 32, 43, 56⟩) (.me .join (.con (.str (Str.ofString " & ")) 0 ⟨43, 11, 43, 16⟩) ⟨43, 11, 43, 21⟩ (.cons (.var 1 ⟨43, 22, 43, 27⟩) .nil) ⟨43, 11, 43, 28⟩) (.me .join (.con (.str (Str.ofString " | ")) 0 ⟨43, 62, 43, 67⟩) ⟨43, 62, 43, 72⟩ (.cons (.var 1 ⟨43, 73, 43, 78⟩) .nil) ⟨43, 62, 43, 79⟩) ⟨43, 11, 43, 79⟩) ⟨43, 4, 43, 79⟩) .nil))))
/-! term_repr : top 19 -/
def n19 : List Str := [(Str.ofString "term"), (Str.ofString "inner"), (Str.ofString "part")]
def b19 : Ss := (.cons (.iff (.isc (.var 0 ⟨45, 18, 45, 22⟩) 1 ⟨45, 24, 45, 29⟩ ⟨45, 7, 45, 17⟩ ⟨45, 7, 45, 30⟩) (.cons (.ret (.fst (.cons (.con (.str (Str.ofString "Place(")) 0 ⟨46, 17, 46, 23⟩) (.cons (.fmt (.att (.var 0 ⟨46, 24, 46, 28⟩) (Str.ofString "name") (Str.ofString "own_name") ⟨46, 24, 46, 33⟩) true ⟨46, 23, 46, 36⟩) (.cons (.con (.str (Str.ofString ")")) 0 ⟨46, 36, 46, 37⟩) .nil))) ⟨46, 15, 46, 38⟩) ⟨46, 8, 46, 38⟩) .nil) .nil ⟨45, 4, 46, 38⟩) (.cons (.iff (.isc (.var 0 ⟨47, 18, 47, 22⟩) 2 ⟨47, 24, 47, 27⟩ ⟨47, 7, 47, 17⟩ ⟨47, 7, 47, 28⟩) (.cons (.ret (.fst (.cons (.con (.str (Str.ofString "End(")) 0 ⟨48, 17, 48, 21⟩) (.cons (.fmt (.att (.var 0 ⟨48, 22, 48, 26⟩) (Str.ofString "end") (Str.ofString "own_end") ⟨48, 22, 48, 30⟩) true ⟨48, 21, 48, 33⟩) (.cons (.con (.str (Str.ofString ")")) 0 ⟨48, 33, 48, 34⟩) .nil))) ⟨48, 15, 48, 35⟩) ⟨48, 8, 48, 35⟩) .nil) .nil ⟨47, 4, 48, 35⟩) (.cons (.asg 1 ⟨49, 4, 49, 9⟩ (.me .join (.con (.str (Str.ofString ", ")) 0 ⟨49, 12, 49, 16⟩) ⟨49, 12, 49, 21⟩ (.cons (.lc (.call 6 ⟨49, 23, 49, 32⟩ (.cons (.var 2 ⟨49, 33, 49, 37⟩) .nil) ⟨49, 23, 49, 38⟩) 2 ⟨49, 43, 49, 47⟩ (.seq (.att (.var 0 ⟨49, 51, 49, 55⟩) (Str.ofString "parts") (Str.ofString "own_parts") ⟨49, 51, 49, 61⟩)) .nil { kind := .function, names := [((Str.ofString ".0"), .local), ((Str.ofString "part"), .local), ((Str.ofString "term_repr"), .globalImplicit)], isGenerator := false, isCoroutine := false, more := [] } ⟨49, 22, 49, 62⟩) .nil) ⟨49, 12, 49, 63⟩) ⟨49, 4, 49, 63⟩) (.cons (.ret (.ife (.isc (.var 0 ⟨50, 44, 50, 48⟩) 3 ⟨50, 50, 50, 56⟩ ⟨50, 33, 50, 43⟩ ⟨50, 33, 50, 57⟩) (.fst (.cons (.con (.str (Str.ofString "Lesser(")) 0 ⟨50, 13, 50, 20⟩) (.cons (.fmt (.var 1 ⟨50, 21, 50, 26⟩) false ⟨50, 20, 50, 27⟩) (.cons (.con (.str (Str.ofString ")")) 0 ⟨50, 27, 50, 28⟩) .nil))) ⟨50, 11, 50, 29⟩) (.fst (.cons (.con (.str (Str.ofString "Greater(")) 0 ⟨50, 65, 50, 73⟩) (.cons (.fmt (.var 1 ⟨50, 74, 50, 79⟩) false ⟨50, 73, 50, 80⟩) (.cons (.con (.str (Str.ofString ")")) 0 ⟨50, 80, 50, 81⟩) .nil))) ⟨50, 63, 50, 82⟩) ⟨50, 11, 50, 82⟩) ⟨50, 4, 50, 82⟩) .nil))))
/-! _law_pot : top 26 -/
def n26 : List Str := [(Str.ofString "_law_script"), (Str.ofString "_law_k"), (Str.ofString "_law_cell")]
def b26 : Ss := (.cons (.asg 2 ⟨130, 4, 130, 13⟩ (.bin .Add (.bin .Mult (.con (.int (23)) 0 ⟨130, 16, 130, 18⟩) (.var 1 ⟨130, 21, 130, 27⟩) ⟨130, 16, 130, 27⟩) (.con (.int (9)) 0 ⟨130, 30, 130, 31⟩) ⟨130, 16, 130, 31⟩) ⟨130, 4, 130, 31⟩) (.cons (.iff (.cmp .Lt (.var 1 ⟨131, 7, 131, 13⟩) (.bi .len ⟨131, 16, 131, 19⟩ (.cons (.var 0 ⟨131, 20, 131, 31⟩) .nil) ⟨131, 16, 131, 32⟩) ⟨131, 7, 131, 32⟩) (.cons (.asg 2 ⟨132, 8, 132, 17⟩ (.idx (.var 0 ⟨132, 20, 132, 31⟩) (.var 1 ⟨132, 32, 132, 38⟩) ⟨132, 20, 132, 39⟩) ⟨132, 8, 132, 39⟩) .nil) .nil ⟨131, 4, 132, 39⟩) (.cons (.ret (.lst (.cons (.bi .max ⟨133, 12, 133, 15⟩ (.cons (.con (.int (0)) 0 ⟨133, 16, 133, 17⟩) (.cons (.bin .Sub (.bi .abs ⟨133, 19, 133, 22⟩ (.cons (.var 2 ⟨133, 23, 133, 32⟩) .nil) ⟨133, 19, 133, 33⟩) (.bin .Pow (.con (.int (10)) 0 ⟨133, 36, 133, 38⟩) (.con (.int (18)) 0 ⟨133, 42, 133, 44⟩) ⟨133, 36, 133, 44⟩) ⟨133, 19, 133, 44⟩) .nil)) ⟨133, 12, 133, 45⟩) (.cons (.bin .Add (.bin .Mod (.bin .Mult (.bi .int ⟨133, 47, 133, 50⟩ (.cons (.bin .Add (.bin .Mod (.bi .int ⟨133, 51, 133, 54⟩ (.cons (.bi .abs ⟨133, 55, 133, 58⟩ (.cons (.var 2 ⟨133, 59, 133, 68⟩) .nil) ⟨133, 55, 133, 69⟩) .nil) ⟨133, 51, 133, 70⟩) (.con (.int (2147483549)) 0 ⟨133, 73, 133, 83⟩) ⟨133, 51, 133, 83⟩) (.con (.int (3)) 0 ⟨133, 86, 133, 87⟩) ⟨133, 51, 133, 87⟩) .nil) ⟨133, 47, 133, 88⟩) (.bin .Pow (.bin .Add (.bin .Mult (.con (.int (2)) 0 ⟨133, 92, 133, 93⟩) (.var 1 ⟨133, 96, 133, 102⟩) ⟨133, 92, 133, 102⟩) (.con (.int (5)) 0 ⟨133, 105, 133, 106⟩) ⟨133, 92, 133, 106⟩) (.con (.int (3)) 0 ⟨133, 111, 133, 112⟩) ⟨133, 91, 133, 112⟩) ⟨133, 47, 133, 112⟩) (.con (.int (2147483477)) 0 ⟨133, 115, 133, 125⟩) ⟨133, 47, 133, 125⟩) (.con (.int (1)) 0 ⟨133, 128, 133, 129⟩) ⟨133, 47, 133, 129⟩) .nil)) ⟨133, 11, 133, 130⟩) ⟨133, 4, 133, 130⟩) .nil)))
/-! _law_draw : top 27 -/
def n27 : List Str := [(Str.ofString "_law_pot_here"), (Str.ofString "_law_many"), (Str.ofString "_law_digit")]
def b27 : Ss := (.cons (.iff (.cmp .Gt (.idx (.var 0 ⟨135, 7, 135, 20⟩) (.con (.int (0)) 0 ⟨135, 21, 135, 22⟩) ⟨135, 7, 135, 23⟩) (.con (.int (0)) 0 ⟨135, 26, 135, 27⟩) ⟨135, 7, 135, 27⟩) (.cons (.unp (.sub (.var 0 ⟨136, 8, 136, 21⟩) (.con (.int (0)) 0 ⟨136, 22, 136, 23⟩) ⟨136, 8, 136, 24⟩) (.nm 2 ⟨136, 26, 136, 36⟩) 0 ⟨136, 8, 136, 36⟩ (.bi .divmod ⟨136, 39, 136, 45⟩ (.cons (.idx (.var 0 ⟨136, 46, 136, 59⟩) (.con (.int (0)) 0 ⟨136, 60, 136, 61⟩) ⟨136, 46, 136, 62⟩) (.cons (.var 1 ⟨136, 64, 136, 73⟩) .nil)) ⟨136, 39, 136, 74⟩) ⟨136, 8, 136, 74⟩) (.cons (.ret (.var 2 ⟨137, 15, 137, 25⟩) ⟨137, 8, 137, 25⟩) .nil)) .nil ⟨135, 4, 137, 25⟩) (.cons (.sub (.var 0 ⟨138, 4, 138, 17⟩) (.con (.int (1)) 0 ⟨138, 18, 138, 19⟩) ⟨138, 4, 138, 20⟩ (.bin .Mod (.bi .int ⟨138, 23, 138, 26⟩ (.cons (.bin .Add (.bin .Mult (.idx (.var 0 ⟨138, 27, 138, 40⟩) (.con (.int (1)) 0 ⟨138, 41, 138, 42⟩) ⟨138, 27, 138, 43⟩) (.con (.int (48271)) 0 ⟨138, 46, 138, 51⟩) ⟨138, 27, 138, 51⟩) (.con (.int (11213)) 0 ⟨138, 54, 138, 59⟩) ⟨138, 27, 138, 59⟩) .nil) ⟨138, 23, 138, 60⟩) (.con (.int (2147483587)) 0 ⟨138, 63, 138, 73⟩) ⟨138, 23, 138, 73⟩) ⟨138, 4, 138, 73⟩) (.cons (.ret (.bin .Mod (.bin .FloorDiv (.bin .Mod (.bi .int ⟨139, 11, 139, 14⟩ (.cons (.bin .Mult (.idx (.var 0 ⟨139, 15, 139, 28⟩) (.con (.int (1)) 0 ⟨139, 29, 139, 30⟩) ⟨139, 15, 139, 31⟩) (.idx (.var 0 ⟨139, 34, 139, 47⟩) (.con (.int (1)) 0 ⟨139, 48, 139, 49⟩) ⟨139, 34, 139, 50⟩) ⟨139, 15, 139, 50⟩) .nil) ⟨139, 11, 139, 51⟩) (.con (.int (2147483549)) 0 ⟨139, 54, 139, 64⟩) ⟨139, 11, 139, 64⟩) (.con (.int (13)) 0 ⟨139, 68, 139, 70⟩) ⟨139, 11, 139, 70⟩) (.var 1 ⟨139, 73, 139, 82⟩) ⟨139, 11, 139, 82⟩) ⟨139, 4, 139, 82⟩) .nil)))
/-! _law_pick : top 28 -/
def n28 : List Str := [(Str.ofString "_law_pot_here"), (Str.ofString "_law_some")]
def b28 : Ss := (.cons (.ret (.idx (.var 1 ⟨141, 11, 141, 20⟩) (.call 8 ⟨141, 21, 141, 30⟩ (.cons (.var 0 ⟨141, 31, 141, 44⟩) (.cons (.bi .len ⟨141, 46, 141, 49⟩ (.cons (.var 1 ⟨141, 50, 141, 59⟩) .nil) ⟨141, 46, 141, 60⟩) .nil)) ⟨141, 21, 141, 61⟩) ⟨141, 11, 141, 62⟩) ⟨141, 4, 141, 62⟩) .nil)
/-! _law_places : top 29 -/
def n29 : List Str := [(Str.ofString "_law_pot_here"), (Str.ofString "_law_left"), (Str.ofString "_law_turn")]
def b29 : Ss := (.cons (.asg 1 ⟨143, 4, 143, 13⟩ (.lst (.cons (.con (.str (Str.ofString "r0")) 0 ⟨143, 17, 143, 21⟩) (.cons (.con (.str (Str.ofString "r1")) 0 ⟨143, 23, 143, 27⟩) (.cons (.con (.str (Str.ofString "r2")) 0 ⟨143, 29, 143, 33⟩) (.cons (.con (.str (Str.ofString "r3")) 0 ⟨143, 35, 143, 39⟩) (.cons (.con (.str (Str.ofString "r4")) 0 ⟨143, 41, 143, 45⟩) (.cons (.con (.str (Str.ofString "r5")) 0 ⟨143, 47, 143, 51⟩) (.cons (.con (.str (Str.ofString "x0")) 0 ⟨143, 53, 143, 57⟩) (.cons (.con (.str (Str.ofString "x1")) 0 ⟨143, 59, 143, 63⟩) .nil)))))))) ⟨143, 16, 143, 64⟩) ⟨143, 4, 143, 64⟩) (.cons (.ret (.lc (.me .pop (.var 1 ⟨144, 12, 144, 21⟩) ⟨144, 12, 144, 25⟩ (.cons (.call 8 ⟨144, 26, 144, 35⟩ (.cons (.var 0 ⟨144, 36, 144, 49⟩) (.cons (.bi .len ⟨144, 51, 144, 54⟩ (.cons (.var 1 ⟨144, 55, 144, 64⟩) .nil) ⟨144, 51, 144, 65⟩) .nil)) ⟨144, 26, 144, 66⟩) .nil) ⟨144, 12, 144, 67⟩) 2 ⟨144, 72, 144, 81⟩ (.rng1 ⟨144, 85, 144, 90⟩ (.bin .Add (.con (.int (1)) 0 ⟨144, 91, 144, 92⟩) (.call 8 ⟨144, 95, 144, 104⟩ (.cons (.var 0 ⟨144, 105, 144, 118⟩) (.cons (.con (.int (5)) 0 ⟨144, 120, 144, 121⟩) .nil)) ⟨144, 95, 144, 122⟩) ⟨144, 91, 144, 122⟩) ⟨144, 85, 144, 123⟩) .nil { kind := .function, names := [((Str.ofString ".0"), .local), ((Str.ofString "_law_turn"), .local), ((Str.ofString "_law_draw"), .globalImplicit), ((Str.ofString "len"), .globalImplicit), ((Str.ofString "_law_left"), .free), ((Str.ofString "_law_pot_here"), .free)], isGenerator := false, isCoroutine := false, more := [] } ⟨144, 11, 144, 124⟩) ⟨144, 4, 144, 124⟩) .nil))
/-! _law_term : top 30 -/
def n30 : List Str := [(Str.ofString "_law_pot_here"), (Str.ofString "_law_places_here"), (Str.ofString "_law_deep"), (Str.ofString "_law_way"), (Str.ofString "_law_word"), (Str.ofString "_law_turn")]
def b30 : Ss := (.cons (.asg 3 ⟨146, 4, 146, 12⟩ (.call 8 ⟨146, 15, 146, 24⟩ (.cons (.var 0 ⟨146, 25, 146, 38⟩) (.cons (.con (.int (9)) 0 ⟨146, 40, 146, 41⟩) .nil)) ⟨146, 15, 146, 42⟩) ⟨146, 4, 146, 42⟩) (.cons (.iff (.bop .Or (.cons (.cmp .Eq (.var 2 ⟨147, 7, 147, 16⟩) (.con (.int (0)) 0 ⟨147, 20, 147, 21⟩) ⟨147, 7, 147, 21⟩) (.cons (.cmp .Lt (.var 3 ⟨147, 25, 147, 33⟩) (.con (.int (2)) 0 ⟨147, 36, 147, 37⟩) ⟨147, 25, 147, 37⟩) .nil)) ⟨147, 7, 147, 37⟩) (.cons (.iff (.cmp .Eq (.call 8 ⟨148, 11, 148, 20⟩ (.cons (.var 0 ⟨148, 21, 148, 34⟩) (.cons (.con (.int (6)) 0 ⟨148, 36, 148, 37⟩) .nil)) ⟨148, 11, 148, 38⟩) (.con (.int (0)) 0 ⟨148, 42, 148, 43⟩) ⟨148, 11, 148, 43⟩) (.cons (.ret (.tup (.cons (.con (.str (Str.ofString "end")) 0 ⟨149, 20, 149, 25⟩) (.cons (.call 9 ⟨149, 27, 149, 36⟩ (.cons (.var 0 ⟨149, 37, 149, 50⟩) (.cons (.lst (.cons (.con (.str (Str.ofString "bottom")) 0 ⟨149, 53, 149, 61⟩) (.cons (.con (.str (Str.ofString "top")) 0 ⟨149, 63, 149, 68⟩) .nil)) ⟨149, 52, 149, 69⟩) .nil)) ⟨149, 27, 149, 70⟩) .nil)) 0 ⟨149, 19, 149, 71⟩) ⟨149, 12, 149, 71⟩) .nil) .nil ⟨148, 8, 149, 71⟩) (.cons (.ret (.tup (.cons (.con (.str (Str.ofString "place")) 0 ⟨150, 16, 150, 23⟩) (.cons (.call 9 ⟨150, 25, 150, 34⟩ (.cons (.var 0 ⟨150, 35, 150, 48⟩) (.cons (.var 1 ⟨150, 50, 150, 66⟩) .nil)) ⟨150, 25, 150, 67⟩) .nil)) 0 ⟨150, 15, 150, 68⟩) ⟨150, 8, 150, 68⟩) .nil)) .nil ⟨147, 4, 150, 68⟩) (.cons (.asg 4 ⟨151, 4, 151, 13⟩ (.call 9 ⟨151, 16, 151, 25⟩ (.cons (.var 0 ⟨151, 26, 151, 39⟩) (.cons (.lst (.cons (.con (.str (Str.ofString "lesser")) 0 ⟨151, 42, 151, 50⟩) (.cons (.con (.str (Str.ofString "greater")) 0 ⟨151, 52, 151, 61⟩) .nil)) ⟨151, 41, 151, 62⟩) .nil)) ⟨151, 16, 151, 63⟩) ⟨151, 4, 151, 63⟩) (.cons (.iff (.cmp .Eq (.var 3 ⟨152, 7, 152, 15⟩) (.con (.int (8)) 0 ⟨152, 19, 152, 20⟩) ⟨152, 7, 152, 20⟩) (.cons (.ret (.tup (.cons (.var 4 ⟨153, 16, 153, 25⟩) (.cons (.lc (.tup (.cons (.con (.str (Str.ofString "place")) 0 ⟨153, 29, 153, 36⟩) (.cons (.call 9 ⟨153, 38, 153, 47⟩ (.cons (.var 0 ⟨153, 48, 153, 61⟩) (.cons (.var 1 ⟨153, 63, 153, 79⟩) .nil)) ⟨153, 38, 153, 80⟩) .nil)) 0 ⟨153, 28, 153, 81⟩) 5 ⟨153, 86, 153, 95⟩ (.rng1 ⟨153, 99, 153, 104⟩ (.con (.int (8)) 0 ⟨153, 105, 153, 106⟩) ⟨153, 99, 153, 107⟩) .nil { kind := .function, names := [((Str.ofString ".0"), .local), ((Str.ofString "_law_turn"), .local), ((Str.ofString "_law_pick"), .globalImplicit), ((Str.ofString "_law_places_here"), .free), ((Str.ofString "_law_pot_here"), .free)], isGenerator := false, isCoroutine := false, more := [] } ⟨153, 27, 153, 108⟩) .nil)) 0 ⟨153, 15, 153, 109⟩) ⟨153, 8, 153, 109⟩) .nil) .nil ⟨152, 4, 153, 109⟩) (.cons (.ret (.tup (.cons (.var 4 ⟨154, 12, 154, 21⟩) (.cons (.lc (.call 11 ⟨154, 24, 154, 33⟩ (.cons (.var 0 ⟨154, 34, 154, 47⟩) (.cons (.var 1 ⟨154, 49, 154, 65⟩) (.cons (.bin .Sub (.var 2 ⟨154, 67, 154, 76⟩) (.con (.int (1)) 0 ⟨154, 79, 154, 80⟩) ⟨154, 67, 154, 80⟩) .nil))) ⟨154, 24, 154, 81⟩) 5 ⟨154, 86, 154, 95⟩ (.rng1 ⟨154, 99, 154, 104⟩ (.call 9 ⟨154, 105, 154, 114⟩ (.cons (.var 0 ⟨154, 115, 154, 128⟩) (.cons (.lst (.cons (.con (.int (2)) 0 ⟨154, 131, 154, 132⟩) (.cons (.con (.int (2)) 0 ⟨154, 134, 154, 135⟩) (.cons (.con (.int (3)) 0 ⟨154, 137, 154, 138⟩) (.cons (.con (.int (4)) 0 ⟨154, 140, 154, 141⟩) .nil)))) ⟨154, 130, 154, 142⟩) .nil)) ⟨154, 105, 154, 143⟩) ⟨154, 99, 154, 144⟩) .nil { kind := .function, names := [((Str.ofString ".0"), .local), ((Str.ofString "_law_turn"), .local), ((Str.ofString "_law_term"), .globalImplicit), ((Str.ofString "_law_deep"), .free), ((Str.ofString "_law_places_here"), .free), ((Str.ofString "_law_pot_here"), .free)], isGenerator := false, isCoroutine := false, more := [] } ⟨154, 23, 154, 145⟩) .nil)) 0 ⟨154, 11, 154, 146⟩) ⟨154, 4, 154, 146⟩) .nil)))))
/-! _law_joined : top 31 -/
def n31 : List Str := [(Str.ofString "_law_word"), (Str.ofString "_law_p")]
def b31 : Ss := (.cons (.iff (.cmp .Eq (.var 0 ⟨156, 7, 156, 16⟩) (.con (.str (Str.ofString "lesser")) 0 ⟨156, 20, 156, 28⟩) ⟨156, 7, 156, 28⟩) (.cons (.iff (.cmp .Eq (.bi .len ⟨157, 11, 157, 14⟩ (.cons (.var 1 ⟨157, 15, 157, 21⟩) .nil) ⟨157, 11, 157, 22⟩) (.con (.int (2)) 0 ⟨157, 26, 157, 27⟩) ⟨157, 11, 157, 27⟩) (.cons (.ret (.call 23 ⟨158, 19, 158, 25⟩ (.cons (.idx (.var 1 ⟨158, 26, 158, 32⟩) (.con (.int (0)) 0 ⟨158, 33, 158, 34⟩) ⟨158, 26, 158, 35⟩) (.cons (.idx (.var 1 ⟨158, 37, 158, 43⟩) (.con (.int (1)) 0 ⟨158, 44, 158, 45⟩) ⟨158, 37, 158, 46⟩) .nil)) ⟨158, 19, 158, 47⟩) ⟨158, 12, 158, 47⟩) .nil) .nil ⟨157, 8, 158, 47⟩) (.cons (.iff (.cmp .Eq (.bi .len ⟨159, 11, 159, 14⟩ (.cons (.var 1 ⟨159, 15, 159, 21⟩) .nil) ⟨159, 11, 159, 22⟩) (.con (.int (3)) 0 ⟨159, 26, 159, 27⟩) ⟨159, 11, 159, 27⟩) (.cons (.ret (.call 23 ⟨160, 19, 160, 25⟩ (.cons (.idx (.var 1 ⟨160, 26, 160, 32⟩) (.con (.int (0)) 0 ⟨160, 33, 160, 34⟩) ⟨160, 26, 160, 35⟩) (.cons (.idx (.var 1 ⟨160, 37, 160, 43⟩) (.con (.int (1)) 0 ⟨160, 44, 160, 45⟩) ⟨160, 37, 160, 46⟩) (.cons (.idx (.var 1 ⟨160, 48, 160, 54⟩) (.con (.int (2)) 0 ⟨160, 55, 160, 56⟩) ⟨160, 48, 160, 57⟩) .nil))) ⟨160, 19, 160, 58⟩) ⟨160, 12, 160, 58⟩) .nil) .nil ⟨159, 8, 160, 58⟩) (.cons (.iff (.cmp .Eq (.bi .len ⟨161, 11, 161, 14⟩ (.cons (.var 1 ⟨161, 15, 161, 21⟩) .nil) ⟨161, 11, 161, 22⟩) (.con (.int (4)) 0 ⟨161, 26, 161, 27⟩) ⟨161, 11, 161, 27⟩) (.cons (.ret (.call 23 ⟨162, 19, 162, 25⟩ (.cons (.idx (.var 1 ⟨162, 26, 162, 32⟩) (.con (.int (0)) 0 ⟨162, 33, 162, 34⟩) ⟨162, 26, 162, 35⟩) (.cons (.idx (.var 1 ⟨162, 37, 162, 43⟩) (.con (.int (1)) 0 ⟨162, 44, 162, 45⟩) ⟨162, 37, 162, 46⟩) (.cons (.idx (.var 1 ⟨162, 48, 162, 54⟩) (.con (.int (2)) 0 ⟨162, 55, 162, 56⟩) ⟨162, 48, 162, 57⟩) (.cons (.idx (.var 1 ⟨162, 59, 162, 65⟩) (.con (.int (3)) 0 ⟨162, 66, 162, 67⟩) ⟨162, 59, 162, 68⟩) .nil)))) ⟨162, 19, 162, 69⟩) ⟨162, 12, 162, 69⟩) .nil) .nil ⟨161, 8, 162, 69⟩) (.cons (.ret (.call 23 ⟨163, 15, 163, 21⟩ (.cons (.idx (.var 1 ⟨163, 22, 163, 28⟩) (.con (.int (0)) 0 ⟨163, 29, 163, 30⟩) ⟨163, 22, 163, 31⟩) (.cons (.idx (.var 1 ⟨163, 33, 163, 39⟩) (.con (.int (1)) 0 ⟨163, 40, 163, 41⟩) ⟨163, 33, 163, 42⟩) (.cons (.idx (.var 1 ⟨163, 44, 163, 50⟩) (.con (.int (2)) 0 ⟨163, 51, 163, 52⟩) ⟨163, 44, 163, 53⟩) (.cons (.idx (.var 1 ⟨163, 55, 163, 61⟩) (.con (.int (3)) 0 ⟨163, 62, 163, 63⟩) ⟨163, 55, 163, 64⟩) (.cons (.idx (.var 1 ⟨163, 66, 163, 72⟩) (.con (.int (4)) 0 ⟨163, 73, 163, 74⟩) ⟨163, 66, 163, 75⟩) (.cons (.idx (.var 1 ⟨163, 77, 163, 83⟩) (.con (.int (5)) 0 ⟨163, 84, 163, 85⟩) ⟨163, 77, 163, 86⟩) (.cons (.idx (.var 1 ⟨163, 88, 163, 94⟩) (.con (.int (6)) 0 ⟨163, 95, 163, 96⟩) ⟨163, 88, 163, 97⟩) (.cons (.idx (.var 1 ⟨163, 99, 163, 105⟩) (.con (.int (7)) 0 ⟨163, 106, 163, 107⟩) ⟨163, 99, 163, 108⟩) .nil)))))))) ⟨163, 15, 163, 109⟩) ⟨163, 8, 163, 109⟩) .nil)))) .nil ⟨156, 4, 163, 109⟩) (.cons (.iff (.cmp .Eq (.bi .len ⟨164, 7, 164, 10⟩ (.cons (.var 1 ⟨164, 11, 164, 17⟩) .nil) ⟨164, 7, 164, 18⟩) (.con (.int (2)) 0 ⟨164, 22, 164, 23⟩) ⟨164, 7, 164, 23⟩) (.cons (.ret (.call 24 ⟨165, 15, 165, 22⟩ (.cons (.idx (.var 1 ⟨165, 23, 165, 29⟩) (.con (.int (0)) 0 ⟨165, 30, 165, 31⟩) ⟨165, 23, 165, 32⟩) (.cons (.idx (.var 1 ⟨165, 34, 165, 40⟩) (.con (.int (1)) 0 ⟨165, 41, 165, 42⟩) ⟨165, 34, 165, 43⟩) .nil)) ⟨165, 15, 165, 44⟩) ⟨165, 8, 165, 44⟩) .nil) .nil ⟨164, 4, 165, 44⟩) (.cons (.iff (.cmp .Eq (.bi .len ⟨166, 7, 166, 10⟩ (.cons (.var 1 ⟨166, 11, 166, 17⟩) .nil) ⟨166, 7, 166, 18⟩) (.con (.int (3)) 0 ⟨166, 22, 166, 23⟩) ⟨166, 7, 166, 23⟩) (.cons (.ret (.call 24 ⟨167, 15, 167, 22⟩ (.cons (.idx (.var 1 ⟨167, 23, 167, 29⟩) (.con (.int (0)) 0 ⟨167, 30, 167, 31⟩) ⟨167, 23, 167, 32⟩) (.cons (.idx (.var 1 ⟨167, 34, 167, 40⟩) (.con (.int (1)) 0 ⟨167, 41, 167, 42⟩) ⟨167, 34, 167, 43⟩) (.cons (.idx (.var 1 ⟨167, 45, 167, 51⟩) (.con (.int (2)) 0 ⟨167, 52, 167, 53⟩) ⟨167, 45, 167, 54⟩) .nil))) ⟨167, 15, 167, 55⟩) ⟨167, 8, 167, 55⟩) .nil) .nil ⟨166, 4, 167, 55⟩) (.cons (.iff (.cmp .Eq (.bi .len ⟨168, 7, 168, 10⟩ (.cons (.var 1 ⟨168, 11, 168, 17⟩) .nil) ⟨168, 7, 168, 18⟩) (.con (.int (4)) 0 ⟨168, 22, 168, 23⟩) ⟨168, 7, 168, 23⟩) (.cons (.ret (.call 24 ⟨169, 15, 169, 22⟩ (.cons (.idx (.var 1 ⟨169, 23, 169, 29⟩) (.con (.int (0)) 0 ⟨169, 30, 169, 31⟩) ⟨169, 23, 169, 32⟩) (.cons (.idx (.var 1 ⟨169, 34, 169, 40⟩) (.con (.int (1)) 0 ⟨169, 41, 169, 42⟩) ⟨169, 34, 169, 43⟩) (.cons (.idx (.var 1 ⟨169, 45, 169, 51⟩) (.con (.int (2)) 0 ⟨169, 52, 169, 53⟩) ⟨169, 45, 169, 54⟩) (.cons (.idx (.var 1 ⟨169, 56, 169, 62⟩) (.con (.int (3)) 0 ⟨169, 63, 169, 64⟩) ⟨169, 56, 169, 65⟩) .nil)))) ⟨169, 15, 169, 66⟩) ⟨169, 8, 169, 66⟩) .nil) .nil ⟨168, 4, 169, 66⟩) (.cons (.ret (.call 24 ⟨170, 11, 170, 18⟩ (.cons (.idx (.var 1 ⟨170, 19, 170, 25⟩) (.con (.int (0)) 0 ⟨170, 26, 170, 27⟩) ⟨170, 19, 170, 28⟩) (.cons (.idx (.var 1 ⟨170, 30, 170, 36⟩) (.con (.int (1)) 0 ⟨170, 37, 170, 38⟩) ⟨170, 30, 170, 39⟩) (.cons (.idx (.var 1 ⟨170, 41, 170, 47⟩) (.con (.int (2)) 0 ⟨170, 48, 170, 49⟩) ⟨170, 41, 170, 50⟩) (.cons (.idx (.var 1 ⟨170, 52, 170, 58⟩) (.con (.int (3)) 0 ⟨170, 59, 170, 60⟩) ⟨170, 52, 170, 61⟩) (.cons (.idx (.var 1 ⟨170, 63, 170, 69⟩) (.con (.int (4)) 0 ⟨170, 70, 170, 71⟩) ⟨170, 63, 170, 72⟩) (.cons (.idx (.var 1 ⟨170, 74, 170, 80⟩) (.con (.int (5)) 0 ⟨170, 81, 170, 82⟩) ⟨170, 74, 170, 83⟩) (.cons (.idx (.var 1 ⟨170, 85, 170, 91⟩) (.con (.int (6)) 0 ⟨170, 92, 170, 93⟩) ⟨170, 85, 170, 94⟩) (.cons (.idx (.var 1 ⟨170, 96, 170, 102⟩) (.con (.int (7)) 0 ⟨170, 103, 170, 104⟩) ⟨170, 96, 170, 105⟩) .nil)))))))) ⟨170, 11, 170, 106⟩) ⟨170, 4, 170, 106⟩) .nil)))))
/-! _law_real : top 32 -/
def n32 : List Str := [(Str.ofString "_law_term_here"), (Str.ofString "_law_part")]
def b32 : Ss := (.cons (.iff (.cmp .Eq (.idx (.var 0 ⟨172, 7, 172, 21⟩) (.con (.int (0)) 0 ⟨172, 22, 172, 23⟩) ⟨172, 7, 172, 24⟩) (.con (.str (Str.ofString "place")) 0 ⟨172, 28, 172, 35⟩) ⟨172, 7, 172, 35⟩) (.cons (.ret (.call 21 ⟨173, 15, 173, 20⟩ (.cons (.idx (.var 0 ⟨173, 21, 173, 35⟩) (.con (.int (1)) 0 ⟨173, 36, 173, 37⟩) ⟨173, 21, 173, 38⟩) .nil) ⟨173, 15, 173, 39⟩) ⟨173, 8, 173, 39⟩) .nil) .nil ⟨172, 4, 173, 39⟩) (.cons (.iff (.cmp .Eq (.idx (.var 0 ⟨174, 7, 174, 21⟩) (.con (.int (0)) 0 ⟨174, 22, 174, 23⟩) ⟨174, 7, 174, 24⟩) (.con (.str (Str.ofString "end")) 0 ⟨174, 28, 174, 33⟩) ⟨174, 7, 174, 33⟩) (.cons (.ret (.call 22 ⟨175, 15, 175, 18⟩ (.cons (.idx (.var 0 ⟨175, 19, 175, 33⟩) (.con (.int (1)) 0 ⟨175, 34, 175, 35⟩) ⟨175, 19, 175, 36⟩) .nil) ⟨175, 15, 175, 37⟩) ⟨175, 8, 175, 37⟩) .nil) .nil ⟨174, 4, 175, 37⟩) (.cons (.ret (.call 12 ⟨176, 11, 176, 22⟩ (.cons (.idx (.var 0 ⟨176, 23, 176, 37⟩) (.con (.int (0)) 0 ⟨176, 38, 176, 39⟩) ⟨176, 23, 176, 40⟩) (.cons (.lc (.call 13 ⟨176, 43, 176, 52⟩ (.cons (.var 1 ⟨176, 53, 176, 62⟩) .nil) ⟨176, 43, 176, 63⟩) 1 ⟨176, 68, 176, 77⟩ (.seq (.idx (.var 0 ⟨176, 81, 176, 95⟩) (.con (.int (1)) 0 ⟨176, 96, 176, 97⟩) ⟨176, 81, 176, 98⟩)) .nil { kind := .function, names := [((Str.ofString ".0"), .local), ((Str.ofString "_law_part"), .local), ((Str.ofString "_law_real"), .globalImplicit)], isGenerator := false, isCoroutine := false, more := [] } ⟨176, 42, 176, 99⟩) .nil)) ⟨176, 11, 176, 100⟩) ⟨176, 4, 176, 100⟩) .nil)))
/-! _law_inner : top 33 -/
def n33 : List Str := [(Str.ofString "_law_term_here")]
def b33 : Ss := (.cons (.ret (.ife (.cmp .In (.idx (.var 0 ⟨178, 52, 178, 66⟩) (.con (.int (0)) 0 ⟨178, 67, 178, 68⟩) ⟨178, 52, 178, 69⟩) (.tup (.cons (.con (.str (Str.ofString "lesser")) 0 ⟨178, 74, 178, 82⟩) (.cons (.con (.str (Str.ofString "greater")) 0 ⟨178, 84, 178, 93⟩) .nil)) 0 ⟨178, 73, 178, 94⟩) ⟨178, 52, 178, 94⟩) (.bin .Add (.bin .Add (.con (.str (Str.ofString "(")) 0 ⟨178, 11, 178, 14⟩) (.call 15 ⟨178, 17, 178, 26⟩ (.cons (.var 0 ⟨178, 27, 178, 41⟩) .nil) ⟨178, 17, 178, 42⟩) ⟨178, 11, 178, 42⟩) (.con (.str (Str.ofString ")")) 0 ⟨178, 45, 178, 48⟩) ⟨178, 11, 178, 48⟩) (.call 15 ⟨178, 100, 178, 109⟩ (.cons (.var 0 ⟨178, 110, 178, 124⟩) .nil) ⟨178, 100, 178, 125⟩) ⟨178, 11, 178, 125⟩) ⟨178, 4, 178, 125⟩) .nil)
/-! _law_text : top 34 -/
def n34 : List Str := [(Str.ofString "_law_term_here"), (Str.ofString "_law_part")]
def b34 : Ss := (.cons (.iff (.cmp .In (.idx (.var 0 ⟨180, 7, 180, 21⟩) (.con (.int (0)) 0 ⟨180, 22, 180, 23⟩) ⟨180, 7, 180, 24⟩) (.tup (.cons (.con (.str (Str.ofString "place")) 0 ⟨180, 29, 180, 36⟩) (.cons (.con (.str (Str.ofString "end")) 0 ⟨180, 38, 180, 43⟩) .nil)) 0 ⟨180, 28, 180, 44⟩) ⟨180, 7, 180, 44⟩) (.cons (.ret (.idx (.var 0 ⟨181, 15, 181, 29⟩) (.con (.int (1)) 0 ⟨181, 30, 181, 31⟩) ⟨181, 15, 181, 32⟩) ⟨181, 8, 181, 32⟩) .nil) .nil ⟨180, 4, 181, 32⟩) (.cons (.ret (.me .join (.idx (.dis (.cons (.con (.str (Str.ofString "lesser")) 0 ⟨182, 12, 182, 20⟩) (.con (.str (Str.ofString " & ")) 0 ⟨182, 22, 182, 27⟩) (.cons (.con (.str (Str.ofString "greater")) 0 ⟨182, 29, 182, 38⟩) (.con (.str (Str.ofString " | ")) 0 ⟨182, 40, 182, 45⟩) .nil)) ⟨182, 11, 182, 46⟩) (.idx (.var 0 ⟨182, 47, 182, 61⟩) (.con (.int (0)) 0 ⟨182, 62, 182, 63⟩) ⟨182, 47, 182, 64⟩) ⟨182, 11, 182, 65⟩) ⟨182, 11, 182, 70⟩ (.cons (.lc (.call 14 ⟨182, 72, 182, 82⟩ (.cons (.var 1 ⟨182, 83, 182, 92⟩) .nil) ⟨182, 72, 182, 93⟩) 1 ⟨182, 98, 182, 107⟩ (.seq (.idx (.var 0 ⟨182, 111, 182, 125⟩) (.con (.int (1)) 0 ⟨182, 126, 182, 127⟩) ⟨182, 111, 182, 128⟩)) .nil { kind := .function, names := [((Str.ofString ".0"), .local), ((Str.ofString "_law_part"), .local), ((Str.ofString "_law_inner"), .globalImplicit)], isGenerator := false, isCoroutine := false, more := [] } ⟨182, 71, 182, 129⟩) .nil) ⟨182, 11, 182, 130⟩) ⟨182, 4, 182, 130⟩) .nil))
/-! _law_written : top 35 -/
def n35 : List Str := [(Str.ofString "_law_term_here"), (Str.ofString "_law_word"), (Str.ofString "_law_part")]
def b35 : Ss := (.cons (.asg 1 ⟨184, 4, 184, 13⟩ (.idx (.dis (.cons (.con (.str (Str.ofString "place")) 0 ⟨184, 17, 184, 24⟩) (.con (.str (Str.ofString "Place")) 0 ⟨184, 26, 184, 33⟩) (.cons (.con (.str (Str.ofString "end")) 0 ⟨184, 35, 184, 40⟩) (.con (.str (Str.ofString "End")) 0 ⟨184, 42, 184, 47⟩) (.cons (.con (.str (Str.ofString "lesser")) 0 ⟨184, 49, 184, 57⟩) (.con (.str (Str.ofString "Lesser")) 0 ⟨184, 59, 184, 67⟩) (.cons (.con (.str (Str.ofString "greater")) 0 ⟨184, 69, 184, 78⟩) (.con (.str (Str.ofString "Greater")) 0 ⟨184, 80, 184, 89⟩) .nil)))) ⟨184, 16, 184, 90⟩) (.idx (.var 0 ⟨184, 91, 184, 105⟩) (.con (.int (0)) 0 ⟨184, 106, 184, 107⟩) ⟨184, 91, 184, 108⟩) ⟨184, 16, 184, 109⟩) ⟨184, 4, 184, 109⟩) (.cons (.iff (.cmp .In (.idx (.var 0 ⟨185, 7, 185, 21⟩) (.con (.int (0)) 0 ⟨185, 22, 185, 23⟩) ⟨185, 7, 185, 24⟩) (.tup (.cons (.con (.str (Str.ofString "place")) 0 ⟨185, 29, 185, 36⟩) (.cons (.con (.str (Str.ofString "end")) 0 ⟨185, 38, 185, 43⟩) .nil)) 0 ⟨185, 28, 185, 44⟩) ⟨185, 7, 185, 44⟩) (.cons (.ret (.bin .Add (.bin .Add (.bin .Add (.var 1 ⟨186, 15, 186, 24⟩) (.con (.str (Str.ofString "('")) 0 ⟨186, 27, 186, 31⟩) ⟨186, 15, 186, 31⟩) (.idx (.var 0 ⟨186, 34, 186, 48⟩) (.con (.int (1)) 0 ⟨186, 49, 186, 50⟩) ⟨186, 34, 186, 51⟩) ⟨186, 15, 186, 51⟩) (.con (.str (Str.ofString "')")) 0 ⟨186, 54, 186, 58⟩) ⟨186, 15, 186, 58⟩) ⟨186, 8, 186, 58⟩) .nil) .nil ⟨185, 4, 186, 58⟩) (.cons (.ret (.bin .Add (.bin .Add (.bin .Add (.var 1 ⟨187, 11, 187, 20⟩) (.con (.str (Str.ofString "(")) 0 ⟨187, 23, 187, 26⟩) ⟨187, 11, 187, 26⟩) (.me .join (.con (.str (Str.ofString ", ")) 0 ⟨187, 29, 187, 33⟩) ⟨187, 29, 187, 38⟩ (.cons (.lc (.call 16 ⟨187, 40, 187, 52⟩ (.cons (.var 2 ⟨187, 53, 187, 62⟩) .nil) ⟨187, 40, 187, 63⟩) 2 ⟨187, 68, 187, 77⟩ (.seq (.idx (.var 0 ⟨187, 81, 187, 95⟩) (.con (.int (1)) 0 ⟨187, 96, 187, 97⟩) ⟨187, 81, 187, 98⟩)) .nil { kind := .function, names := [((Str.ofString ".0"), .local), ((Str.ofString "_law_part"), .local), ((Str.ofString "_law_written"), .globalImplicit)], isGenerator := false, isCoroutine := false, more := [] } ⟨187, 39, 187, 99⟩) .nil) ⟨187, 29, 187, 100⟩) ⟨187, 11, 187, 100⟩) (.con (.str (Str.ofString ")")) 0 ⟨187, 103, 187, 106⟩) ⟨187, 11, 187, 106⟩) ⟨187, 4, 187, 106⟩) .nil)))
/-! _law_bent : top 36 -/
def n36 : List Str := [(Str.ofString "_law_pot_here"), (Str.ofString "_law_term_here"), (Str.ofString "_law_places_here"), (Str.ofString "_law_way"), (Str.ofString "_law_at"), (Str.ofString "_law_parts")]
def b36 : Ss := (.cons (.iff (.cmp .Eq (.idx (.var 1 ⟨189, 7, 189, 21⟩) (.con (.int (0)) 0 ⟨189, 22, 189, 23⟩) ⟨189, 7, 189, 24⟩) (.con (.str (Str.ofString "place")) 0 ⟨189, 28, 189, 35⟩) ⟨189, 7, 189, 35⟩) (.cons (.ret (.call 9 ⟨190, 15, 190, 24⟩ (.cons (.var 0 ⟨190, 25, 190, 38⟩) (.cons (.lst (.cons (.tup (.cons (.con (.str (Str.ofString "place")) 0 ⟨190, 42, 190, 49⟩) (.cons (.call 9 ⟨190, 51, 190, 60⟩ (.cons (.var 0 ⟨190, 61, 190, 74⟩) (.cons (.var 2 ⟨190, 76, 190, 92⟩) .nil)) ⟨190, 51, 190, 93⟩) .nil)) 0 ⟨190, 41, 190, 94⟩) (.cons (.tup (.cons (.con (.str (Str.ofString "end")) 0 ⟨190, 97, 190, 102⟩) (.cons (.con (.str (Str.ofString "top")) 0 ⟨190, 104, 190, 109⟩) .nil)) 0 ⟨190, 96, 190, 110⟩) (.cons (.tup (.cons (.con (.str (Str.ofString "lesser")) 0 ⟨190, 113, 190, 121⟩) (.cons (.lst (.cons (.var 1 ⟨190, 124, 190, 138⟩) (.cons (.var 1 ⟨190, 140, 190, 154⟩) .nil)) ⟨190, 123, 190, 155⟩) .nil)) 0 ⟨190, 112, 190, 156⟩) (.cons (.var 1 ⟨190, 158, 190, 172⟩) .nil)))) ⟨190, 40, 190, 173⟩) .nil)) ⟨190, 15, 190, 174⟩) ⟨190, 8, 190, 174⟩) .nil) .nil ⟨189, 4, 190, 174⟩) (.cons (.iff (.cmp .Eq (.idx (.var 1 ⟨191, 7, 191, 21⟩) (.con (.int (0)) 0 ⟨191, 22, 191, 23⟩) ⟨191, 7, 191, 24⟩) (.con (.str (Str.ofString "end")) 0 ⟨191, 28, 191, 33⟩) ⟨191, 7, 191, 33⟩) (.cons (.ret (.tup (.cons (.con (.str (Str.ofString "end")) 0 ⟨192, 16, 192, 21⟩) (.cons (.idx (.dis (.cons (.con (.str (Str.ofString "bottom")) 0 ⟨192, 24, 192, 32⟩) (.con (.str (Str.ofString "top")) 0 ⟨192, 34, 192, 39⟩) (.cons (.con (.str (Str.ofString "top")) 0 ⟨192, 41, 192, 46⟩) (.con (.str (Str.ofString "bottom")) 0 ⟨192, 48, 192, 56⟩) .nil)) ⟨192, 23, 192, 57⟩) (.idx (.var 1 ⟨192, 58, 192, 72⟩) (.con (.int (1)) 0 ⟨192, 73, 192, 74⟩) ⟨192, 58, 192, 75⟩) ⟨192, 23, 192, 76⟩) .nil)) 0 ⟨192, 15, 192, 77⟩) ⟨192, 8, 192, 77⟩) .nil) .nil ⟨191, 4, 192, 77⟩) (.cons (.par3 3 4 5 ⟨193, 4, 193, 12⟩ ⟨193, 14, 193, 21⟩ ⟨193, 23, 193, 33⟩ 0 ⟨193, 4, 193, 33⟩ (.call 8 ⟨193, 37, 193, 46⟩ (.cons (.var 0 ⟨193, 47, 193, 60⟩) (.cons (.con (.int (6)) 0 ⟨193, 62, 193, 63⟩) .nil)) ⟨193, 37, 193, 64⟩) (.call 8 ⟨193, 66, 193, 75⟩ (.cons (.var 0 ⟨193, 76, 193, 89⟩) (.cons (.bi .len ⟨193, 91, 193, 94⟩ (.cons (.idx (.var 1 ⟨193, 95, 193, 109⟩) (.con (.int (1)) 0 ⟨193, 110, 193, 111⟩) ⟨193, 95, 193, 112⟩) .nil) ⟨193, 91, 193, 113⟩) .nil)) ⟨193, 66, 193, 114⟩) (.bi .list ⟨193, 116, 193, 120⟩ (.cons (.idx (.var 1 ⟨193, 121, 193, 135⟩) (.con (.int (1)) 0 ⟨193, 136, 193, 137⟩) ⟨193, 121, 193, 138⟩) .nil) ⟨193, 116, 193, 139⟩) 0 ⟨193, 36, 193, 140⟩ ⟨193, 4, 193, 140⟩) (.cons (.iff (.cmp .Lt (.var 3 ⟨194, 7, 194, 15⟩) (.con (.int (3)) 0 ⟨194, 18, 194, 19⟩) ⟨194, 7, 194, 19⟩) (.cons (.sub (.var 5 ⟨195, 8, 195, 18⟩) (.var 4 ⟨195, 19, 195, 26⟩) ⟨195, 8, 195, 27⟩ (.call 17 ⟨195, 30, 195, 39⟩ (.cons (.var 0 ⟨195, 40, 195, 53⟩) (.cons (.idx (.var 5 ⟨195, 55, 195, 65⟩) (.var 4 ⟨195, 66, 195, 73⟩) ⟨195, 55, 195, 74⟩) (.cons (.var 2 ⟨195, 76, 195, 92⟩) .nil))) ⟨195, 30, 195, 93⟩) ⟨195, 8, 195, 93⟩) (.cons (.ret (.tup (.cons (.idx (.var 1 ⟨196, 16, 196, 30⟩) (.con (.int (0)) 0 ⟨196, 31, 196, 32⟩) ⟨196, 16, 196, 33⟩) (.cons (.var 5 ⟨196, 35, 196, 45⟩) .nil)) 0 ⟨196, 15, 196, 46⟩) ⟨196, 8, 196, 46⟩) .nil)) .nil ⟨194, 4, 196, 46⟩) (.cons (.iff (.cmp .Eq (.var 3 ⟨197, 7, 197, 15⟩) (.con (.int (3)) 0 ⟨197, 19, 197, 20⟩) ⟨197, 7, 197, 20⟩) (.cons (.ret (.tup (.cons (.idx (.dis (.cons (.con (.str (Str.ofString "lesser")) 0 ⟨198, 17, 198, 25⟩) (.con (.str (Str.ofString "greater")) 0 ⟨198, 27, 198, 36⟩) (.cons (.con (.str (Str.ofString "greater")) 0 ⟨198, 38, 198, 47⟩) (.con (.str (Str.ofString "lesser")) 0 ⟨198, 49, 198, 57⟩) .nil)) ⟨198, 16, 198, 58⟩) (.idx (.var 1 ⟨198, 59, 198, 73⟩) (.con (.int (0)) 0 ⟨198, 74, 198, 75⟩) ⟨198, 59, 198, 76⟩) ⟨198, 16, 198, 77⟩) (.cons (.var 5 ⟨198, 79, 198, 89⟩) .nil)) 0 ⟨198, 15, 198, 90⟩) ⟨198, 8, 198, 90⟩) .nil) .nil ⟨197, 4, 198, 90⟩) (.cons (.iff (.bop .And (.cons (.cmp .Eq (.var 3 ⟨199, 7, 199, 15⟩) (.con (.int (4)) 0 ⟨199, 19, 199, 20⟩) ⟨199, 7, 199, 20⟩) (.cons (.cmp .Lt (.bi .len ⟨199, 25, 199, 28⟩ (.cons (.var 5 ⟨199, 29, 199, 39⟩) .nil) ⟨199, 25, 199, 40⟩) (.con (.int (4)) 0 ⟨199, 43, 199, 44⟩) ⟨199, 25, 199, 44⟩) .nil)) ⟨199, 7, 199, 44⟩) (.cons (.ret (.tup (.cons (.idx (.var 1 ⟨200, 16, 200, 30⟩) (.con (.int (0)) 0 ⟨200, 31, 200, 32⟩) ⟨200, 16, 200, 33⟩) (.cons (.bin .Add (.bin .Add (.sli (.var 5 ⟨200, 35, 200, 45⟩) none (some (.var 4 ⟨200, 47, 200, 54⟩)) ⟨200, 46, 200, 54⟩ ⟨200, 35, 200, 55⟩) (.lst (.cons (.idx (.var 5 ⟨200, 59, 200, 69⟩) (.var 4 ⟨200, 70, 200, 77⟩) ⟨200, 59, 200, 78⟩) .nil) ⟨200, 58, 200, 79⟩) ⟨200, 35, 200, 79⟩) (.sli (.var 5 ⟨200, 82, 200, 92⟩) (some (.var 4 ⟨200, 93, 200, 100⟩)) none ⟨200, 93, 200, 101⟩ ⟨200, 82, 200, 102⟩) ⟨200, 35, 200, 102⟩) .nil)) 0 ⟨200, 15, 200, 103⟩) ⟨200, 8, 200, 103⟩) .nil) .nil ⟨199, 4, 200, 103⟩) (.cons (.ret (.tup (.cons (.idx (.var 1 ⟨201, 12, 201, 26⟩) (.con (.int (0)) 0 ⟨201, 27, 201, 28⟩) ⟨201, 12, 201, 29⟩) (.cons (.rev (.var 5 ⟨201, 31, 201, 41⟩) 0 ⟨201, 45, 201, 46⟩ ⟨201, 44, 201, 46⟩ ⟨201, 42, 201, 46⟩ ⟨201, 31, 201, 47⟩) .nil)) 0 ⟨201, 11, 201, 48⟩) ⟨201, 4, 201, 48⟩) .nil)))))))
/-! _law_signs_right : top 37 -/
def n37 : List Str := [(Str.ofString "_law_made"), (Str.ofString "_law_term_here"), (Str.ofString "_law_other"), (Str.ofString "_law_real_here"), (Str.ofString "_law_pairs"), (Str.ofString "_law_one"), (Str.ofString "_law_model")]
def b37 : Ss := (.cons (.asg 3 ⟨203, 4, 203, 18⟩ (.call 13 ⟨203, 21, 203, 30⟩ (.cons (.var 2 ⟨203, 31, 203, 41⟩) .nil) ⟨203, 21, 203, 42⟩) ⟨203, 4, 203, 42⟩) (.cons (.asg 4 ⟨204, 4, 204, 14⟩ (.lst (.cons (.tup (.cons (.bin .BitAnd (.var 0 ⟨204, 19, 204, 28⟩) (.var 3 ⟨204, 31, 204, 45⟩) ⟨204, 19, 204, 45⟩) (.cons (.tup (.cons (.con (.str (Str.ofString "lesser")) 0 ⟨204, 48, 204, 56⟩) (.cons (.lst (.cons (.var 1 ⟨204, 59, 204, 73⟩) (.cons (.var 2 ⟨204, 75, 204, 85⟩) .nil)) ⟨204, 58, 204, 86⟩) .nil)) 0 ⟨204, 47, 204, 87⟩) .nil)) 0 ⟨204, 18, 204, 88⟩) (.cons (.tup (.cons (.bin .BitOr (.var 3 ⟨204, 91, 204, 105⟩) (.var 0 ⟨204, 108, 204, 117⟩) ⟨204, 91, 204, 117⟩) (.cons (.tup (.cons (.con (.str (Str.ofString "greater")) 0 ⟨204, 120, 204, 129⟩) (.cons (.lst (.cons (.var 2 ⟨204, 132, 204, 142⟩) (.cons (.var 1 ⟨204, 144, 204, 158⟩) .nil)) ⟨204, 131, 204, 159⟩) .nil)) 0 ⟨204, 119, 204, 160⟩) .nil)) 0 ⟨204, 90, 204, 161⟩) .nil)) ⟨204, 17, 204, 162⟩) ⟨204, 4, 204, 162⟩) (.cons (.exp (.me .append (.var 4 ⟨205, 4, 205, 14⟩) ⟨205, 4, 205, 21⟩ (.cons (.tup (.cons (.bin .BitAnd (.bin .BitAnd (.var 0 ⟨205, 23, 205, 32⟩) (.var 3 ⟨205, 35, 205, 49⟩) ⟨205, 23, 205, 49⟩) (.var 0 ⟨205, 52, 205, 61⟩) ⟨205, 23, 205, 61⟩) (.cons (.tup (.cons (.con (.str (Str.ofString "lesser")) 0 ⟨205, 64, 205, 72⟩) (.cons (.lst (.cons (.tup (.cons (.con (.str (Str.ofString "lesser")) 0 ⟨205, 76, 205, 84⟩) (.cons (.lst (.cons (.var 1 ⟨205, 87, 205, 101⟩) (.cons (.var 2 ⟨205, 103, 205, 113⟩) .nil)) ⟨205, 86, 205, 114⟩) .nil)) 0 ⟨205, 75, 205, 115⟩) (.cons (.var 1 ⟨205, 117, 205, 131⟩) .nil)) ⟨205, 74, 205, 132⟩) .nil)) 0 ⟨205, 63, 205, 133⟩) .nil)) 0 ⟨205, 22, 205, 134⟩) .nil) ⟨205, 4, 205, 135⟩) ⟨205, 4, 205, 135⟩) (.cons (.exp (.me .append (.var 4 ⟨206, 4, 206, 14⟩) ⟨206, 4, 206, 21⟩ (.cons (.tup (.cons (.bin .BitOr (.var 0 ⟨206, 23, 206, 32⟩) (.bin .BitAnd (.var 3 ⟨206, 35, 206, 49⟩) (.var 3 ⟨206, 52, 206, 66⟩) ⟨206, 35, 206, 66⟩) ⟨206, 23, 206, 66⟩) (.cons (.tup (.cons (.con (.str (Str.ofString "greater")) 0 ⟨206, 69, 206, 78⟩) (.cons (.lst (.cons (.var 1 ⟨206, 81, 206, 95⟩) (.cons (.tup (.cons (.con (.str (Str.ofString "lesser")) 0 ⟨206, 98, 206, 106⟩) (.cons (.lst (.cons (.var 2 ⟨206, 109, 206, 119⟩) (.cons (.var 2 ⟨206, 121, 206, 131⟩) .nil)) ⟨206, 108, 206, 132⟩) .nil)) 0 ⟨206, 97, 206, 133⟩) .nil)) ⟨206, 80, 206, 134⟩) .nil)) 0 ⟨206, 68, 206, 135⟩) .nil)) 0 ⟨206, 22, 206, 136⟩) .nil) ⟨206, 4, 206, 137⟩) ⟨206, 4, 206, 137⟩) (.cons (.frt 5 6 ⟨207, 8, 207, 16⟩ ⟨207, 18, 207, 28⟩ 0 ⟨207, 8, 207, 28⟩ (.seq (.var 4 ⟨207, 32, 207, 42⟩)) (.cons (.iff (.bop .Or (.cons (.cmp .NotEq (.bi .str ⟨208, 11, 208, 14⟩ (.cons (.var 5 ⟨208, 15, 208, 23⟩) .nil) ⟨208, 11, 208, 24⟩) (.call 15 ⟨208, 28, 208, 37⟩ (.cons (.var 6 ⟨208, 38, 208, 48⟩) .nil) ⟨208, 28, 208, 49⟩) ⟨208, 11, 208, 49⟩) (.cons (.cmp .NotEq (.bi .repr ⟨208, 53, 208, 57⟩ (.cons (.var 5 ⟨208, 58, 208, 66⟩) .nil) ⟨208, 53, 208, 67⟩) (.call 16 ⟨208, 71, 208, 83⟩ (.cons (.var 6 ⟨208, 84, 208, 94⟩) .nil) ⟨208, 71, 208, 95⟩) ⟨208, 53, 208, 95⟩) (.cons (.cmp .NotEq (.var 5 ⟨208, 99, 208, 107⟩) (.call 13 ⟨208, 111, 208, 120⟩ (.cons (.var 6 ⟨208, 121, 208, 131⟩) .nil) ⟨208, 111, 208, 132⟩) ⟨208, 99, 208, 132⟩) .nil))) ⟨208, 11, 208, 132⟩) (.cons (.ret (.con (.bool false) 0 ⟨209, 19, 209, 24⟩) ⟨209, 12, 209, 24⟩) .nil) .nil ⟨208, 8, 209, 24⟩) .nil) ⟨207, 4, 209, 24⟩) (.cons (.ret (.bop .And (.cons (.cmp .Eq (.bi .str ⟨210, 11, 210, 14⟩ (.cons (.var 0 ⟨210, 15, 210, 24⟩) .nil) ⟨210, 11, 210, 25⟩) (.call 15 ⟨210, 29, 210, 38⟩ (.cons (.var 1 ⟨210, 39, 210, 53⟩) .nil) ⟨210, 29, 210, 54⟩) ⟨210, 11, 210, 54⟩) (.cons (.cmp .Eq (.bi .str ⟨210, 59, 210, 62⟩ (.cons (.var 3 ⟨210, 63, 210, 77⟩) .nil) ⟨210, 59, 210, 78⟩) (.call 15 ⟨210, 82, 210, 91⟩ (.cons (.var 2 ⟨210, 92, 210, 102⟩) .nil) ⟨210, 82, 210, 103⟩) ⟨210, 59, 210, 103⟩) .nil)) ⟨210, 11, 210, 103⟩) ⟨210, 4, 210, 103⟩) .nil))))))
/-! _law_right : top 38 -/
def n38 : List Str := [(Str.ofString "_law_pot_here"), (Str.ofString "_law_places_here"), (Str.ofString "_law_term_here"), (Str.ofString "_law_other"), (Str.ofString "_law_made"), (Str.ofString "_law_near"), (Str.ofString "_law_model"), (Str.ofString "_law_twin"), (Str.ofString "_law_told"), (Str.ofString "_law_things"), (Str.ofString "_law_turn"), (Str.ofString "_law_thing")]
def b38 : Ss := (.cons (.asg 1 ⟨212, 4, 212, 20⟩ (.call 10 ⟨212, 23, 212, 34⟩ (.cons (.var 0 ⟨212, 35, 212, 48⟩) .nil) ⟨212, 23, 212, 49⟩) ⟨212, 4, 212, 49⟩) (.cons (.unp (.nm 2 ⟨213, 4, 213, 18⟩) (.nm 3 ⟨213, 20, 213, 30⟩) 0 ⟨213, 4, 213, 30⟩ (.tup (.cons (.call 11 ⟨213, 34, 213, 43⟩ (.cons (.var 0 ⟨213, 44, 213, 57⟩) (.cons (.var 1 ⟨213, 59, 213, 75⟩) (.cons (.con (.int (3)) 0 ⟨213, 77, 213, 78⟩) .nil))) ⟨213, 34, 213, 79⟩) (.cons (.call 11 ⟨213, 81, 213, 90⟩ (.cons (.var 0 ⟨213, 91, 213, 104⟩) (.cons (.var 1 ⟨213, 106, 213, 122⟩) (.cons (.con (.int (2)) 0 ⟨213, 124, 213, 125⟩) .nil))) ⟨213, 81, 213, 126⟩) .nil)) 0 ⟨213, 33, 213, 127⟩) ⟨213, 4, 213, 127⟩) (.cons (.asg 4 ⟨214, 4, 214, 13⟩ (.call 13 ⟨214, 16, 214, 25⟩ (.cons (.var 2 ⟨214, 26, 214, 40⟩) .nil) ⟨214, 16, 214, 41⟩) ⟨214, 4, 214, 41⟩) (.cons (.iff (.cmp .NotEq (.lst (.cons (.bi .str ⟨215, 8, 215, 11⟩ (.cons (.var 4 ⟨215, 12, 215, 21⟩) .nil) ⟨215, 8, 215, 22⟩) (.cons (.bi .repr ⟨215, 24, 215, 28⟩ (.cons (.var 4 ⟨215, 29, 215, 38⟩) .nil) ⟨215, 24, 215, 39⟩) .nil)) ⟨215, 7, 215, 40⟩) (.lst (.cons (.call 15 ⟨215, 45, 215, 54⟩ (.cons (.var 2 ⟨215, 55, 215, 69⟩) .nil) ⟨215, 45, 215, 70⟩) (.cons (.call 16 ⟨215, 72, 215, 84⟩ (.cons (.var 2 ⟨215, 85, 215, 99⟩) .nil) ⟨215, 72, 215, 100⟩) .nil)) ⟨215, 44, 215, 101⟩) ⟨215, 7, 215, 101⟩) (.cons (.ret (.con (.bool false) 0 ⟨216, 15, 216, 20⟩) ⟨216, 8, 216, 20⟩) .nil) .nil ⟨215, 4, 216, 20⟩) (.cons (.asg 5 ⟨217, 4, 217, 13⟩ (.lst (.cons (.var 2 ⟨217, 17, 217, 31⟩) (.cons (.var 3 ⟨217, 33, 217, 43⟩) (.cons (.tup (.cons (.con (.str (Str.ofString "lesser")) 0 ⟨217, 46, 217, 54⟩) (.cons (.lst (.cons (.var 2 ⟨217, 57, 217, 71⟩) (.cons (.var 2 ⟨217, 73, 217, 87⟩) .nil)) ⟨217, 56, 217, 88⟩) .nil)) 0 ⟨217, 45, 217, 89⟩) (.cons (.tup (.cons (.con (.str (Str.ofString "greater")) 0 ⟨217, 92, 217, 101⟩) (.cons (.lst (.cons (.var 2 ⟨217, 104, 217, 118⟩) (.cons (.var 2 ⟨217, 120, 217, 134⟩) .nil)) ⟨217, 103, 217, 135⟩) .nil)) 0 ⟨217, 91, 217, 136⟩) .nil)))) ⟨217, 16, 217, 137⟩) ⟨217, 4, 217, 137⟩) (.cons (.asg 5 ⟨218, 4, 218, 13⟩ (.bin .Add (.var 5 ⟨218, 16, 218, 25⟩) (.lc (.call 17 ⟨218, 29, 218, 38⟩ (.cons (.var 0 ⟨218, 39, 218, 52⟩) (.cons (.var 2 ⟨218, 54, 218, 68⟩) (.cons (.var 1 ⟨218, 70, 218, 86⟩) .nil))) ⟨218, 29, 218, 87⟩) 10 ⟨218, 92, 218, 101⟩ (.rng1 ⟨218, 105, 218, 110⟩ (.con (.int (4)) 0 ⟨218, 111, 218, 112⟩) ⟨218, 105, 218, 113⟩) .nil { kind := .function, names := [((Str.ofString ".0"), .local), ((Str.ofString "_law_turn"), .local), ((Str.ofString "_law_bent"), .globalImplicit), ((Str.ofString "_law_places_here"), .free), ((Str.ofString "_law_pot_here"), .free), ((Str.ofString "_law_term_here"), .free)], isGenerator := false, isCoroutine := false, more := [] } ⟨218, 28, 218, 114⟩) ⟨218, 16, 218, 114⟩) ⟨218, 4, 218, 114⟩) (.cons (.fr 6 ⟨219, 8, 219, 18⟩ (.seq (.var 5 ⟨219, 22, 219, 31⟩)) (.cons (.asg 7 ⟨220, 8, 220, 17⟩ (.call 13 ⟨220, 20, 220, 29⟩ (.cons (.var 6 ⟨220, 30, 220, 40⟩) .nil) ⟨220, 20, 220, 41⟩) ⟨220, 8, 220, 41⟩) (.cons (.asg 8 ⟨221, 8, 221, 17⟩ (.lst (.cons (.cmp .Eq (.var 4 ⟨221, 21, 221, 30⟩) (.var 7 ⟨221, 34, 221, 43⟩) ⟨221, 21, 221, 43⟩) (.cons (.cmp .Eq (.var 7 ⟨221, 45, 221, 54⟩) (.var 4 ⟨221, 58, 221, 67⟩) ⟨221, 45, 221, 67⟩) (.cons (.cmp .NotEq (.var 4 ⟨221, 69, 221, 78⟩) (.var 7 ⟨221, 82, 221, 91⟩) ⟨221, 69, 221, 91⟩) .nil))) ⟨221, 20, 221, 92⟩) ⟨221, 8, 221, 92⟩) (.cons (.iff (.cmp .NotEq (.bi .repr ⟨222, 11, 222, 15⟩ (.cons (.var 8 ⟨222, 16, 222, 25⟩) .nil) ⟨222, 11, 222, 26⟩) (.bi .repr ⟨222, 30, 222, 34⟩ (.cons (.lst (.cons (.cmp .Eq (.var 6 ⟨222, 36, 222, 46⟩) (.var 2 ⟨222, 50, 222, 64⟩) ⟨222, 36, 222, 64⟩) (.cons (.cmp .Eq (.var 6 ⟨222, 66, 222, 76⟩) (.var 2 ⟨222, 80, 222, 94⟩) ⟨222, 66, 222, 94⟩) (.cons (.cmp .NotEq (.var 6 ⟨222, 96, 222, 106⟩) (.var 2 ⟨222, 110, 222, 124⟩) ⟨222, 96, 222, 124⟩) .nil))) ⟨222, 35, 222, 125⟩) .nil) ⟨222, 30, 222, 126⟩) ⟨222, 11, 222, 126⟩) (.cons (.ret (.con (.bool false) 0 ⟨223, 19, 223, 24⟩) ⟨223, 12, 223, 24⟩) .nil) .nil ⟨222, 8, 223, 24⟩) .nil))) ⟨219, 4, 223, 24⟩) (.cons (.asg 9 ⟨224, 4, 224, 15⟩ (.lst (.cons (.bi .str ⟨224, 19, 224, 22⟩ (.cons (.var 4 ⟨224, 23, 224, 32⟩) .nil) ⟨224, 19, 224, 33⟩) (.cons (.bi .repr ⟨224, 35, 224, 39⟩ (.cons (.var 4 ⟨224, 40, 224, 49⟩) .nil) ⟨224, 35, 224, 50⟩) (.cons (.con .none 0 ⟨224, 52, 224, 56⟩) (.cons (.con (.int (0)) 0 ⟨224, 58, 224, 59⟩) (.cons (.con (.str (Str.ofString "")) 0 ⟨224, 61, 224, 63⟩) (.cons (.tup .nil 0 ⟨224, 65, 224, 67⟩) (.cons (.lst (.cons (.var 4 ⟨224, 70, 224, 79⟩) .nil) ⟨224, 69, 224, 80⟩) (.cons (.tup (.cons (.var 4 ⟨224, 83, 224, 92⟩) .nil) 0 ⟨224, 82, 224, 94⟩) (.cons (.dis .nil ⟨224, 96, 224, 98⟩) (.cons (.con (.str (Str.ofString "r0")) 0 ⟨224, 100, 224, 104⟩) (.cons (.con (.str (Str.ofString "top")) 0 ⟨224, 106, 224, 111⟩) .nil))))))))))) ⟨224, 18, 224, 112⟩) ⟨224, 4, 224, 112⟩) (.cons (.iff (.bi .any ⟨225, 7, 225, 10⟩ (.cons (.lc (.bop .Or (.cons (.cmp .Eq (.var 4 ⟨225, 12, 225, 21⟩) (.var 11 ⟨225, 25, 225, 35⟩) ⟨225, 12, 225, 35⟩) (.cons (.cmp .Eq (.var 11 ⟨225, 39, 225, 49⟩) (.var 4 ⟨225, 53, 225, 62⟩) ⟨225, 39, 225, 62⟩) (.cons (.nt (.cmp .NotEq (.var 4 ⟨225, 71, 225, 80⟩) (.var 11 ⟨225, 84, 225, 94⟩) ⟨225, 71, 225, 94⟩) ⟨225, 67, 225, 94⟩) .nil))) ⟨225, 12, 225, 95⟩) 11 ⟨225, 100, 225, 110⟩ (.seq (.var 9 ⟨225, 114, 225, 125⟩)) .nil { kind := .function, names := [((Str.ofString ".0"), .local), ((Str.ofString "_law_thing"), .local), ((Str.ofString "_law_made"), .free)], isGenerator := false, isCoroutine := false, more := [] } ⟨225, 11, 225, 126⟩) .nil) ⟨225, 7, 225, 127⟩) (.cons (.ret (.con (.bool false) 0 ⟨226, 15, 226, 20⟩) ⟨226, 8, 226, 20⟩) .nil) .nil ⟨225, 4, 226, 20⟩) (.cons (.ret (.bop .And (.cons (.call 18 ⟨227, 11, 227, 27⟩ (.cons (.var 4 ⟨227, 28, 227, 37⟩) (.cons (.var 2 ⟨227, 39, 227, 53⟩) (.cons (.var 3 ⟨227, 55, 227, 65⟩) .nil))) ⟨227, 11, 227, 66⟩) (.cons (.cmp .Eq (.lst (.cons (.bi .str ⟨227, 72, 227, 75⟩ (.cons (.var 4 ⟨227, 76, 227, 85⟩) .nil) ⟨227, 72, 227, 86⟩) (.cons (.bi .repr ⟨227, 88, 227, 92⟩ (.cons (.var 4 ⟨227, 93, 227, 102⟩) .nil) ⟨227, 88, 227, 103⟩) .nil)) ⟨227, 71, 227, 104⟩) (.lst (.cons (.call 15 ⟨227, 109, 227, 118⟩ (.cons (.var 2 ⟨227, 119, 227, 133⟩) .nil) ⟨227, 109, 227, 134⟩) (.cons (.call 16 ⟨227, 136, 227, 148⟩ (.cons (.var 2 ⟨227, 149, 227, 163⟩) .nil) ⟨227, 136, 227, 164⟩) .nil)) ⟨227, 108, 227, 165⟩) ⟨227, 71, 227, 165⟩) .nil)) ⟨227, 11, 227, 165⟩) ⟨227, 4, 227, 165⟩) .nil))))))))))
/-! law : top 39 -/
def n39 : List Str := [(Str.ofString "_law_script"), (Str.ofString "_law_k")]
def b39 : Ss := (.cons (.ret (.bi .all ⟨229, 11, 229, 14⟩ (.cons (.lc (.call 19 ⟨229, 16, 229, 26⟩ (.cons (.call 7 ⟨229, 27, 229, 35⟩ (.cons (.var 0 ⟨229, 36, 229, 47⟩) (.cons (.var 1 ⟨229, 49, 229, 55⟩) .nil)) ⟨229, 27, 229, 56⟩) .nil) ⟨229, 16, 229, 57⟩) 1 ⟨229, 62, 229, 68⟩ (.rng1 ⟨229, 72, 229, 77⟩ (.bi .max ⟨229, 78, 229, 81⟩ (.cons (.con (.int (1)) 0 ⟨229, 82, 229, 83⟩) (.cons (.bi .min ⟨229, 85, 229, 88⟩ (.cons (.bi .len ⟨229, 89, 229, 92⟩ (.cons (.var 0 ⟨229, 93, 229, 104⟩) .nil) ⟨229, 89, 229, 105⟩) (.cons (.con (.int (5)) 0 ⟨229, 107, 229, 108⟩) .nil)) ⟨229, 85, 229, 109⟩) .nil)) ⟨229, 78, 229, 110⟩) ⟨229, 72, 229, 111⟩) .nil { kind := .function, names := [((Str.ofString ".0"), .local), ((Str.ofString "_law_k"), .local), ((Str.ofString "_law_right"), .globalImplicit), ((Str.ofString "_law_pot"), .globalImplicit), ((Str.ofString "_law_script"), .free)], isGenerator := false, isCoroutine := false, more := [] } ⟨229, 15, 229, 112⟩) .nil) ⟨229, 11, 229, 113⟩) ⟨229, 4, 229, 113⟩) .nil)
/-! Place.__init__ : top 21 in 0 -/
def n21i : List Str := [(Str.ofString "self"), (Str.ofString "name"), (Str.ofString "__class__")]
def b21i : Ss := (.cons (.iff (.nt (.call 1 ⟨91, 15, 91, 23⟩ (.cons (.var 1 ⟨91, 24, 91, 28⟩) .nil) ⟨91, 15, 91, 29⟩) ⟨91, 11, 91, 29⟩) (.cons (.raise 0 ⟨92, 18, 92, 30⟩ (.var 1 ⟨92, 31, 92, 35⟩) ⟨92, 18, 92, 36⟩ ⟨92, 12, 92, 36⟩) .nil) .nil ⟨91, 8, 92, 36⟩) .nil)
def c21 : Cl := ⟨(Str.ofString "Place"), 2, 3, false, b21i, some ((Str.ofString "own_depth"), (.con (.int (0)) 0 ⟨93, 25, 93, 26⟩)), [((Str.ofString "own_name"), (.var 1 ⟨94, 24, 94, 28⟩))]⟩
/-! End.__init__ : top 22 in 0 -/
def n22i : List Str := [(Str.ofString "self"), (Str.ofString "end"), (Str.ofString "__class__")]
def b22i : Ss := (.cons (.iff (.nt (.call 0 ⟨102, 15, 102, 21⟩ (.cons (.var 1 ⟨102, 22, 102, 25⟩) .nil) ⟨102, 15, 102, 26⟩) ⟨102, 11, 102, 26⟩) (.cons (.raise 1 ⟨103, 18, 103, 28⟩ (.var 1 ⟨103, 29, 103, 32⟩) ⟨103, 18, 103, 33⟩ ⟨103, 12, 103, 33⟩) .nil) .nil ⟨102, 8, 103, 33⟩) .nil)
def c22 : Cl := ⟨(Str.ofString "End"), 2, 3, false, b22i, some ((Str.ofString "own_depth"), (.con (.int (0)) 0 ⟨104, 25, 104, 26⟩)), [((Str.ofString "own_end"), (.var 1 ⟨105, 23, 105, 26⟩))]⟩
/-! Lesser.__init__ : top 23 in 0 -/
def n23i : List Str := [(Str.ofString "self"), (Str.ofString "terms"), (Str.ofString "__class__")]
def b23i : Ss := .nil
def c23 : Cl := ⟨(Str.ofString "Lesser"), 2, 3, true, b23i, some ((Str.ofString "own_depth"), (.call 4 ⟨113, 25, 113, 36⟩ (.cons (.var 1 ⟨113, 37, 113, 42⟩) .nil) ⟨113, 25, 113, 43⟩)), [((Str.ofString "own_parts"), (.var 1 ⟨114, 25, 114, 30⟩))]⟩
/-! Greater.__init__ : top 24 in 0 -/
def n24i : List Str := [(Str.ofString "self"), (Str.ofString "terms"), (Str.ofString "__class__")]
def b24i : Ss := .nil
def c24 : Cl := ⟨(Str.ofString "Greater"), 2, 3, true, b24i, some ((Str.ofString "own_depth"), (.call 4 ⟨122, 25, 122, 36⟩ (.cons (.var 1 ⟨122, 37, 122, 42⟩) .nil) ⟨122, 25, 122, 43⟩)), [((Str.ofString "own_parts"), (.var 1 ⟨123, 25, 123, 30⟩))]⟩
/-! Term.__and__ : top 20 in 6 -/
def n20m6 : List Str := [(Str.ofString "self"), (Str.ofString "other")]
def b20m6 : Ss := (.cons (.exp (.call 2 ⟨73, 8, 73, 17⟩ (.cons (.var 1 ⟨73, 18, 73, 23⟩) .nil) ⟨73, 8, 73, 24⟩) ⟨73, 8, 73, 24⟩) (.cons (.ret (.call 23 ⟨74, 15, 74, 21⟩ (.cons (.var 0 ⟨74, 22, 74, 26⟩) (.cons (.var 1 ⟨74, 28, 74, 33⟩) .nil)) ⟨74, 15, 74, 34⟩) ⟨74, 8, 74, 34⟩) .nil))
/-! Term.__or__ : top 20 in 7 -/
def n20m7 : List Str := [(Str.ofString "self"), (Str.ofString "other")]
def b20m7 : Ss := (.cons (.exp (.call 2 ⟨77, 8, 77, 17⟩ (.cons (.var 1 ⟨77, 18, 77, 23⟩) .nil) ⟨77, 8, 77, 24⟩) ⟨77, 8, 77, 24⟩) (.cons (.ret (.call 24 ⟨78, 15, 78, 22⟩ (.cons (.var 0 ⟨78, 23, 78, 27⟩) (.cons (.var 1 ⟨78, 29, 78, 34⟩) .nil)) ⟨78, 15, 78, 35⟩) ⟨78, 8, 78, 35⟩) .nil))
/-! Term.__str__ : top 20 in 8 -/
def n20m8 : List Str := [(Str.ofString "self")]
def b20m8 : Ss := (.cons (.ret (.bi .str ⟨81, 15, 81, 18⟩ (.cons (.call 5 ⟨81, 19, 81, 28⟩ (.cons (.var 0 ⟨81, 29, 81, 33⟩) .nil) ⟨81, 19, 81, 34⟩) .nil) ⟨81, 15, 81, 35⟩) ⟨81, 8, 81, 35⟩) .nil)
/-! Term.__repr__ : top 20 in 9 -/
def n20m9 : List Str := [(Str.ofString "self")]
def b20m9 : Ss := (.cons (.ret (.bi .str ⟨84, 15, 84, 18⟩ (.cons (.call 6 ⟨84, 19, 84, 28⟩ (.cons (.var 0 ⟨84, 29, 84, 33⟩) .nil) ⟨84, 19, 84, 34⟩) .nil) ⟨84, 15, 84, 35⟩) ⟨84, 8, 84, 35⟩) .nil)
/-! Term.__eq__ : top 20 in 10 -/
def n20m10 : List Str := [(Str.ofString "self"), (Str.ofString "other")]
def b20m10 : Ss := (.cons (.ret (.bop .And (.cons (.isc (.var 1 ⟨87, 26, 87, 31⟩) 0 ⟨87, 33, 87, 37⟩ ⟨87, 15, 87, 25⟩ ⟨87, 15, 87, 38⟩) (.cons (.cmp .Eq (.call 6 ⟨87, 43, 87, 52⟩ (.cons (.var 0 ⟨87, 53, 87, 57⟩) .nil) ⟨87, 43, 87, 58⟩) (.call 6 ⟨87, 62, 87, 71⟩ (.cons (.var 1 ⟨87, 72, 87, 77⟩) .nil) ⟨87, 62, 87, 78⟩) ⟨87, 43, 87, 78⟩) .nil)) ⟨87, 15, 87, 78⟩) ⟨87, 8, 87, 78⟩) .nil)
def fns : List Ent := [.fn ⟨1, 1, false, b10⟩, .fn ⟨1, 1, false, b14⟩, .fn ⟨1, 1, false, b15⟩, .fn ⟨1, 2, false, b16⟩, .fn ⟨1, 2, false, b17⟩, .fn ⟨1, 3, false, b18⟩, .fn ⟨1, 3, false, b19⟩, .fn ⟨2, 3, false, b26⟩, .fn ⟨2, 3, false, b27⟩, .fn ⟨2, 2, false, b28⟩, .fn ⟨1, 3, false, b29⟩, .fn ⟨3, 6, false, b30⟩, .fn ⟨2, 2, false, b31⟩, .fn ⟨1, 2, false, b32⟩, .fn ⟨1, 1, false, b33⟩, .fn ⟨1, 2, false, b34⟩, .fn ⟨1, 3, false, b35⟩, .fn ⟨3, 6, false, b36⟩, .fn ⟨3, 7, false, b37⟩, .fn ⟨1, 12, false, b38⟩, .fn ⟨1, 2, false, b39⟩, .cls c21, .cls c22, .cls c23, .cls c24, .fn ⟨2, 2, false, b20m6⟩, .fn ⟨2, 2, false, b20m7⟩, .fn ⟨1, 1, false, b20m8⟩, .fn ⟨1, 1, false, b20m9⟩, .fn ⟨2, 2, false, b20m10⟩]
end K13

-- P13a
set_option Elab.async false
set_option linter.all false
set_option maxRecDepth 100000
set_option maxHeartbeats 4000000
set_option autoImplicit false
namespace K13
open PySem Mn
def pls : List Str := ["r0", "r1", "r2", "r3", "r4", "r5", "x0", "x1"]
def gd : Gd := ⟨[.str "bottom", .str "top", .tup [.str "bottom", .str "top"], .tup (pls.map .str), .int 2], gam.prp, gam.mth, gam.sub, gam.ocl.length⟩
def tf : EO → Option EO := fun _ => none
def rn : Nat → Nat → List Sl → Option CO := run fns tf gd
abbrev ev (k np ns : Nat) (b : Ss) (as : List Sl) : Option SO := evSs (rn k) tf gd (np, ns) b as
theorem fn0 (k : Nat) (a : Sl) : rn (k+1) 0 [a] = endF [a] (ev k 1 1 b10 [a]) := rfl
theorem fn1 (k : Nat) (a : Sl) : rn (k+1) 1 [a] = endF [a] (ev k 1 1 b14 [a]) := rfl
theorem fn2 (k : Nat) (a : Sl) : rn (k+1) 2 [a] = endF [a] (ev k 1 1 b15 [a]) := rfl
theorem fn3 (k : Nat) (a : Sl) : rn (k+1) 3 [a] = endF [a] (ev k 1 2 b16 [a, .un]) := rfl
theorem fn4 (k : Nat) (a : Sl) : rn (k+1) 4 [a] = endF [a] (ev k 1 2 b17 [a, .un]) := rfl
theorem fn5 (k : Nat) (a : Sl) : rn (k+1) 5 [a] = endF [a] (ev k 1 3 b18 [a, .un, .un]) := rfl
theorem fn6 (k : Nat) (a : Sl) : rn (k+1) 6 [a] = endF [a] (ev k 1 3 b19 [a, .un, .un]) := rfl
theorem fn7 (k : Nat) (a b : Sl) : rn (k+1) 7 [a, b] = endF [a, b] (ev k 2 3 b26 [a, b, .un]) := rfl
theorem fn8 (k : Nat) (a b : Sl) : rn (k+1) 8 [a, b] = endF [a, b] (ev k 2 3 b27 [a, b, .un]) := rfl
theorem fn9 (k : Nat) (a b : Sl) : rn (k+1) 9 [a, b] = endF [a, b] (ev k 2 2 b28 [a, b]) := rfl
theorem fn10 (k : Nat) (a : Sl) : rn (k+1) 10 [a] = endF [a] (ev k 1 3 b29 [a, .un, .un]) := rfl
theorem fn11 (k : Nat) (a b c : Sl) : rn (k+1) 11 [a, b, c] = endF [a, b, c] (ev k 3 6 b30 [a, b, c, .un, .un, .un]) := rfl
theorem fn12 (k : Nat) (a b : Sl) : rn (k+1) 12 [a, b] = endF [a, b] (ev k 2 2 b31 [a, b]) := rfl
theorem fn13 (k : Nat) (a : Sl) : rn (k+1) 13 [a] = endF [a] (ev k 1 2 b32 [a, .un]) := rfl
theorem fn14 (k : Nat) (a : Sl) : rn (k+1) 14 [a] = endF [a] (ev k 1 1 b33 [a]) := rfl
theorem fn15 (k : Nat) (a : Sl) : rn (k+1) 15 [a] = endF [a] (ev k 1 2 b34 [a, .un]) := rfl
theorem fn16 (k : Nat) (a : Sl) : rn (k+1) 16 [a] = endF [a] (ev k 1 3 b35 [a, .un, .un]) := rfl
theorem fn17 (k : Nat) (a b c : Sl) : rn (k+1) 17 [a, b, c] = endF [a, b, c] (ev k 3 6 b36 [a, b, c, .un, .un, .un]) := rfl
theorem fn18 (k : Nat) (a b c : Sl) : rn (k+1) 18 [a, b, c] = endF [a, b, c] (ev k 3 7 b37 [a, b, c, .un, .un, .un, .un]) := rfl
theorem fn19 (k : Nat) (a : Sl) : rn (k+1) 19 [a] = endF [a] (ev k 1 12 b38 [a, .un, .un, .un, .un, .un, .un, .un, .un, .un, .un, .un]) := rfl
theorem fn20 (k : Nat) (a : Sl) : rn (k+1) 20 [a] = endF [a] (ev k 1 2 b39 [a, .un]) := rfl
theorem fn21 (k : Nat) (a : Sl) : rn (k+1) 21 [a] = runC (rn k) tf gd c21 [a] := rfl
theorem fn22 (k : Nat) (a : Sl) : rn (k+1) 22 [a] = runC (rn k) tf gd c22 [a] := rfl
def starC (k : Nat) (c : Cl) (as : List Sl) : Option CO := match vals as with
  | some ds => if ds.length ≤ big then match runC (rn k) tf gd c [.val (.tup ds)] with
      | some (.ret r _) => some (.ret r as)
      | some (.exc k d _) => some (.exc k d as)
      | none => none
    else none
  | none => none
theorem fn23 (k : Nat) (as : List Sl) : rn (k+1) 23 as = starC k c23 as := rfl
theorem fn24 (k : Nat) (as : List Sl) : rn (k+1) 24 as = starC k c24 as := rfl
theorem fn25 (k : Nat) (a b : Sl) : rn (k+1) 25 [a, b] = endF [a, b] (ev k 2 2 b20m6 [a, b]) := rfl
theorem fn26 (k : Nat) (a b : Sl) : rn (k+1) 26 [a, b] = endF [a, b] (ev k 2 2 b20m7 [a, b]) := rfl
theorem fn27 (k : Nat) (a : Sl) : rn (k+1) 27 [a] = endF [a] (ev k 1 1 b20m8 [a]) := rfl
theorem fn28 (k : Nat) (a : Sl) : rn (k+1) 28 [a] = endF [a] (ev k 1 1 b20m9 [a]) := rfl
theorem fn29 (k : Nat) (a b : Sl) : rn (k+1) 29 [a, b] = endF [a, b] (ev k 2 2 b20m10 [a, b]) := rfl
section
variable (cf : Nat → List Sl → Option CO) (tf : EO → Option EO) (gd : Gd)
def lpS (np : Nat × Nat) (b : Ss) : List Sl → Option SO := fun δ => evSs cf tf gd np b δ
def lpE (e : E) : List Sl → Option EO := fun δ => evE cf tf gd e δ
def lpC (e : Es) : List Sl → Option (Bool × List Sl) := fun δ => evC cf tf gd e δ
theorem evS_fr (np : Nat × Nat) (x : Nat) (p : Pos) (it : It) (b : Ss) (q : Pos) (δ : List Sl) : evS cf tf gd np (.fr x p it b q) δ = match evI cf tf gd it δ with
    | some (xs, δ1, lk) => match frL np (lpS cf tf gd np b) x xs δ1 with
      | some o => some (unlockO lk o)
      | none => none
    | none => none := by rw [evS]; rfl
theorem evS_frt (np : Nat × Nat) (x y : Nat) (p p2 : Pos) (kk : Nat) (p3 : Pos) (it : It) (b : Ss) (q : Pos) (δ : List Sl) : evS cf tf gd np (.frt x y p p2 kk p3 it b q) δ = match evI cf tf gd it δ with
    | some (xs, δ1, lk) => match frL2 np (lpS cf tf gd np b) x y xs δ1 with
      | some o => some (unlockO lk o)
      | none => none
    | none => none := by rw [evS]; rfl
theorem evE_lc (elt : E) (x : Nat) (p : Pos) (it : It) (c : Es) (sc : Scope) (q : Pos) (δ : List Sl) : evE cf tf gd (.lc elt x p it c sc q) δ = match evI cf tf gd it δ with
    | some (xs, δ1, lk) => match lcL (lpE cf tf gd elt) (lpC cf tf gd c) x xs (δ1.set x .un) [] with
      | some (ys, δ2) => match δ1[x]? with
        | some (.lock _) => none
        | some s => some (.ok (.new ys) (unlockS (δ2.set x s) lk))
        | none => none
      | none => none
    | none => none := by rw [evE]; rfl
end
/-- a comprehension over a mapped list that touches nothing but its own slot -/
theorem lc_mapT {α : Type} {fe : List Sl → Option EO} {fc : List Sl → Option (Bool × List Sl)} {x : Nat} {δ : List Sl} (F G : α → D) : ∀ (ts : List α) (acc : List D) (s : Sl), (∀ d, fc (δ.set x (.val d)) = some (true, δ.set x (.val d))) →
    (∀ t ∈ ts, fe (δ.set x (.val (F t))) = some (.ok (.val (G t)) (δ.set x (.val (F t))))) → acc.length + ts.length ≤ 1000000 →
    ∃ s', lcL fe fc x (ts.map F) (δ.set x s) acc = some (acc ++ ts.map G, δ.set x s')
  | [], acc, s, _, _, _ => ⟨s, by simp [lcL]⟩
  | t :: ts, acc, s, hc, he, hl => by
    have e1 := he t (by simp)
    simp at hl
    obtain ⟨s', e⟩ := lc_mapT F G ts (acc ++ [G t]) (.val (F t)) hc (fun y hy => he y (by simp [hy])) (by simp; omega)
    have l1 : acc.length < 1000000 := by omega
    exact ⟨s', by simp [lcL, List.set_set, hc, e1, l1, e, frz]⟩
/-! ## terms -/
inductive Tm where
  | pl (x : Str) | en (x : Str) | nd (g : Bool) (ps : List Tm)
mutual
def tmD : Tm → D
  | .pl x => .tup [.str "place", .str x]
  | .en x => .tup [.str "end", .str x]
  | .nd g ps => .tup [.str (if g then "greater" else "lesser"), .lst (tmDs ps)]
def tmDs : List Tm → List D
  | [] => []
  | p :: ps => tmD p :: tmDs ps
end
mutual
def dep : Tm → Nat
  | .pl _ => 0
  | .en _ => 0
  | .nd _ ps => deps ps + 1
def deps : List Tm → Nat
  | [] => 0
  | p :: ps => max (dep p) (deps ps)
end
mutual
def obD : Tm → D
  | .pl x => .obj "Place" [("own_depth", .int 0), ("own_name", .str x)]
  | .en x => .obj "End" [("own_depth", .int 0), ("own_end", .str x)]
  | .nd g ps => .obj (if g then "Greater" else "Lesser") [("own_depth", .int (1 + (deps ps : Nat))), ("own_parts", .tup (obDs ps))]
def obDs : List Tm → List D
  | [] => []
  | p :: ps => obD p :: obDs ps
end
theorem tmDs_map : ∀ ps : List Tm, tmDs ps = ps.map tmD
  | [] => rfl
  | p :: ps => by rw [tmDs, tmDs_map ps]; rfl
theorem obDs_map : ∀ ps : List Tm, obDs ps = ps.map obD
  | [] => rfl
  | p :: ps => by rw [obDs, obDs_map ps]; rfl
inductive Wf : Tm → Prop
  | pl {x : Str} : x ∈ pls → Wf (.pl x)
  | en {x : Str} : x = "bottom" ∨ x = "top" → Wf (.en x)
  | nd {g : Bool} {ps : List Tm} : (∀ p ∈ ps, Wf p) → (ps.length = 2 ∨ ps.length = 3 ∨ ps.length = 4 ∨ ps.length = 8) → Wf (.nd g ps)
theorem dep_le {p : Tm} : ∀ {ps : List Tm}, p ∈ ps → dep p ≤ deps ps
  | [], h => by cases h
  | q :: qs, h => by
    rw [deps]
    rcases List.mem_cons.mp h with h | h
    · subst h; omega
    · have := dep_le h; omega
end K13

-- P13b
set_option Elab.async false
set_option linter.all false
set_option maxRecDepth 100000
set_option maxHeartbeats 4000000
set_option autoImplicit false
namespace K13
open PySem Mn
theorem sh_s {x : Str} (h : PyData.strOk x = true) : SeqAt.shaped (.str x) = true := by
  simp [evSs, evS, evE, evEs, evB, evC, evO, evP, evI, callD, argSl, argSls, bors, wb, frz, frzs, sees, R.see, lockS, unlockS, asgS, asgR, retR, setD, asgT, unlockO, backA, endF, nIf, nIfs, isAnd, truD, RD.r, binO, binD, cmpR, cmpO, isVl, cmpD, biO, biD, ixD, Mn.Loc, keyD, keyD0, meD, recv, gtD, apD, isObj, runC, evF, tyN, ↓evS_fr, ↓evS_frt, ↓evE_lc, SeqAt.shaped, PyData.canLay0, PyData.depth, h]
theorem eq_ii (i j : Int) : eqD (.int i) (.int j) = some (decide (i = j)) := rfl
theorem eq_ss {x y : Str} (h1 : PyData.strOk x = true) (h2 : PyData.strOk y = true) : eqD (.str x) (.str y) = some (x == y) := by
  simp [evSs, evS, evE, evEs, evB, evC, evO, evP, evI, callD, argSl, argSls, bors, wb, frz, frzs, sees, R.see, lockS, unlockS, asgS, asgR, retR, setD, asgT, unlockO, backA, endF, nIf, nIfs, isAnd, truD, RD.r, binO, binD, cmpR, cmpO, isVl, cmpD, biO, biD, ixD, Mn.Loc, keyD, keyD0, meD, recv, gtD, apD, isObj, runC, evF, tyN, ↓evS_fr, ↓evS_frt, ↓evE_lc, eqD, D.eqOk, D.py, sh_s h1, sh_s h2, PyData.eqv]
theorem isi_ss (x : Str) : isiD (.str x) "str" = some true := by
  show L2.kitB "str" "str" = _
  decide +kernel
theorem in_pls {x : Str} (h : x ∈ pls) : inD (.str x) (pls.map .str) = some true := by
  revert x
  decide +kernel
theorem gl2 : gd.gl[2]? = some (.tup [.str "bottom", .str "top"]) := rfl
theorem gl3 : gd.gl[3]? = some (.tup (pls.map .str)) := rfl
theorem gl4 : gd.gl[4]? = some (.int 2) := rfl
theorem in_b : inD (.str "bottom") [.str "bottom", .str "top"] = some true := by decide +kernel
theorem in_t : inD (.str "top") [.str "bottom", .str "top"] = some true := by decide +kernel
def iscT (c : Nat) (C : Str) : Option Bool := if c < gd.nc then (gd.sub.lookup C).map (fun l => l.contains c) else none
theorem iscO (c : Nat) (C : Str) (fs : List (Str × D)) : iscD gd c (.obj C fs) = iscT c C := rfl
def cN (t : Tm) : Str := match t with
  | .pl _ => "Place"
  | .en _ => "End"
  | .nd g _ => if g then "Greater" else "Lesser"
theorem isc_t (t : Tm) (c : Nat) : iscD gd c (obD t) = iscT c (cN t) := by
  cases t <;> (simp only [obD, cN]; rfl)
theorem i0p : iscT 0 "Place" = some true := by decide +kernel
theorem i0e : iscT 0 "End" = some true := by decide +kernel
theorem i0l : iscT 0 "Lesser" = some true := by decide +kernel
theorem i0g : iscT 0 "Greater" = some true := by decide +kernel
theorem i1p : iscT 1 "Place" = some true := by decide +kernel
theorem i1e : iscT 1 "End" = some false := by decide +kernel
theorem i1l : iscT 1 "Lesser" = some false := by decide +kernel
theorem i1g : iscT 1 "Greater" = some false := by decide +kernel
theorem i2p : iscT 2 "Place" = some false := by decide +kernel
theorem i2e : iscT 2 "End" = some true := by decide +kernel
theorem i2l : iscT 2 "Lesser" = some false := by decide +kernel
theorem i2g : iscT 2 "Greater" = some false := by decide +kernel
theorem i3l : iscT 3 "Lesser" = some true := by decide +kernel
theorem i3g : iscT 3 "Greater" = some false := by decide +kernel
theorem isc0 (t : Tm) : iscD gd 0 (obD t) = some true := by
  rw [isc_t]
  cases t with
  | pl x => exact i0p
  | en x => exact i0e
  | nd g ps => cases g <;> first | exact i0l | exact i0g
def attT (C f fld : Str) : Bool := gd.prp.contains (C, f, fld)
theorem attO (C f fld : Str) (fs : List (Str × D)) : attD gd f fld (.obj C fs) = if attT C f fld then fs.lookup fld else none := rfl
theorem a_pd : attT "Place" "depth" "own_depth" = true := by decide +kernel
theorem a_ed : attT "End" "depth" "own_depth" = true := by decide +kernel
theorem a_ld : attT "Lesser" "depth" "own_depth" = true := by decide +kernel
theorem a_gd : attT "Greater" "depth" "own_depth" = true := by decide +kernel
theorem a_pn : attT "Place" "name" "own_name" = true := by decide +kernel
theorem a_ee : attT "End" "end" "own_end" = true := by decide +kernel
theorem a_lp : attT "Lesser" "parts" "own_parts" = true := by decide +kernel
theorem a_gp : attT "Greater" "parts" "own_parts" = true := by decide +kernel
theorem l_dd (x y : D) (n : Str) : List.lookup (Str.ofString "own_depth") [(Str.ofString "own_depth", x), (n, y)] = some x := by
  rw [List.lookup_cons]; simp [evSs, evS, evE, evEs, evB, evC, evO, evP, evI, callD, argSl, argSls, bors, wb, frz, frzs, sees, R.see, lockS, unlockS, asgS, asgR, retR, setD, asgT, unlockO, backA, endF, nIf, nIfs, isAnd, truD, RD.r, binO, binD, cmpR, cmpO, isVl, cmpD, biO, biD, ixD, Mn.Loc, keyD, keyD0, meD, recv, gtD, apD, isObj, runC, evF, tyN, ↓evS_fr, ↓evS_frt, ↓evE_lc]
theorem l_nn (x y : D) : List.lookup (Str.ofString "own_name") [(Str.ofString "own_depth", x), (Str.ofString "own_name", y)] = some y := by
  rw [List.lookup_cons, show ((Str.ofString "own_name") == (Str.ofString "own_depth")) = false by decide +kernel]; simp [evSs, evS, evE, evEs, evB, evC, evO, evP, evI, callD, argSl, argSls, bors, wb, frz, frzs, sees, R.see, lockS, unlockS, asgS, asgR, retR, setD, asgT, unlockO, backA, endF, nIf, nIfs, isAnd, truD, RD.r, binO, binD, cmpR, cmpO, isVl, cmpD, biO, biD, ixD, Mn.Loc, keyD, keyD0, meD, recv, gtD, apD, isObj, runC, evF, tyN, ↓evS_fr, ↓evS_frt, ↓evE_lc, List.lookup_cons]
theorem l_ee (x y : D) : List.lookup (Str.ofString "own_end") [(Str.ofString "own_depth", x), (Str.ofString "own_end", y)] = some y := by
  rw [List.lookup_cons, show ((Str.ofString "own_end") == (Str.ofString "own_depth")) = false by decide +kernel]; simp [evSs, evS, evE, evEs, evB, evC, evO, evP, evI, callD, argSl, argSls, bors, wb, frz, frzs, sees, R.see, lockS, unlockS, asgS, asgR, retR, setD, asgT, unlockO, backA, endF, nIf, nIfs, isAnd, truD, RD.r, binO, binD, cmpR, cmpO, isVl, cmpD, biO, biD, ixD, Mn.Loc, keyD, keyD0, meD, recv, gtD, apD, isObj, runC, evF, tyN, ↓evS_fr, ↓evS_frt, ↓evE_lc, List.lookup_cons]
theorem l_pp (x y : D) : List.lookup (Str.ofString "own_parts") [(Str.ofString "own_depth", x), (Str.ofString "own_parts", y)] = some y := by
  rw [List.lookup_cons, show ((Str.ofString "own_parts") == (Str.ofString "own_depth")) = false by decide +kernel]; simp [evSs, evS, evE, evEs, evB, evC, evO, evP, evI, callD, argSl, argSls, bors, wb, frz, frzs, sees, R.see, lockS, unlockS, asgS, asgR, retR, setD, asgT, unlockO, backA, endF, nIf, nIfs, isAnd, truD, RD.r, binO, binD, cmpR, cmpO, isVl, cmpD, biO, biD, ixD, Mn.Loc, keyD, keyD0, meD, recv, gtD, apD, isObj, runC, evF, tyN, ↓evS_fr, ↓evS_frt, ↓evE_lc, List.lookup_cons]
theorem at_depth (t : Tm) : attD gd "depth" "own_depth" (obD t) = some (.int (dep t : Nat)) := by
  cases t with
  | pl x => simp only [obD, attO, a_pd, if_true, l_dd, dep]; rfl
  | en x => simp only [obD, attO, a_ed, if_true, l_dd, dep]; rfl
  | nd g ps => cases g <;> (simp [evSs, evS, evE, evEs, evB, evC, evO, evP, evI, callD, argSl, argSls, bors, wb, frz, frzs, sees, R.see, lockS, unlockS, asgS, asgR, retR, setD, asgT, unlockO, backA, endF, nIf, nIfs, isAnd, truD, RD.r, binO, binD, cmpR, cmpO, isVl, cmpD, biO, biD, ixD, Mn.Loc, keyD, keyD0, meD, recv, gtD, apD, isObj, runC, evF, tyN, ↓evS_fr, ↓evS_frt, ↓evE_lc, obD, attO, a_ld, a_gd, l_dd, dep]; omega)
theorem at_name (x : Str) : attD gd "name" "own_name" (obD (.pl x)) = some (.str x) := by
  simp only [obD, attO, a_pn, if_true, l_nn]
theorem at_end (x : Str) : attD gd "end" "own_end" (obD (.en x)) = some (.str x) := by
  simp only [obD, attO, a_ee, if_true, l_ee]
theorem at_parts (g : Bool) (ps : List Tm) : attD gd "parts" "own_parts" (obD (.nd g ps)) = some (.tup (ps.map obD)) := by
  cases g <;> simp [evSs, evS, evE, evEs, evB, evC, evO, evP, evI, callD, argSl, argSls, bors, wb, frz, frzs, sees, R.see, lockS, unlockS, asgS, asgR, retR, setD, asgT, unlockO, backA, endF, nIf, nIfs, isAnd, truD, RD.r, binO, binD, cmpR, cmpO, isVl, cmpD, biO, biD, ixD, Mn.Loc, keyD, keyD0, meD, recv, gtD, apD, isObj, runC, evF, tyN, ↓evS_fr, ↓evS_frt, ↓evE_lc, obD, attO, a_lp, a_gp, l_pp, obDs_map]
theorem is_place (k : Nat) {x : Str} (h : x ∈ pls) : rn (k+1) 1 [.val (.str x)] = some (.ret (.val (.bl true)) [.val (.str x)]) := by
  simp [evSs, evS, evE, evEs, evB, evC, evO, evP, evI, callD, argSl, argSls, bors, wb, frz, frzs, sees, R.see, lockS, unlockS, asgS, asgR, retR, setD, asgT, unlockO, backA, endF, nIf, nIfs, isAnd, truD, RD.r, binO, binD, cmpR, cmpO, isVl, cmpD, biO, biD, ixD, Mn.Loc, keyD, keyD0, meD, recv, gtD, apD, isObj, runC, evF, tyN, ↓evS_fr, ↓evS_frt, ↓evE_lc, fn1, b14, isi_ss, gl3, in_pls h]
theorem is_end (k : Nat) {x : Str} (h : x = "bottom" ∨ x = "top") : rn (k+1) 0 [.val (.str x)] = some (.ret (.val (.bl true)) [.val (.str x)]) := by
  rcases h with rfl | rfl <;> simp [evSs, evS, evE, evEs, evB, evC, evO, evP, evI, callD, argSl, argSls, bors, wb, frz, frzs, sees, R.see, lockS, unlockS, asgS, asgR, retR, setD, asgT, unlockO, backA, endF, nIf, nIfs, isAnd, truD, RD.r, binO, binD, cmpR, cmpO, isVl, cmpD, biO, biD, ixD, Mn.Loc, keyD, keyD0, meD, recv, gtD, apD, isObj, runC, evF, tyN, ↓evS_fr, ↓evS_frt, ↓evE_lc, fn0, b10, isi_ss, gl2, in_b, in_t]
theorem mk_place (k : Nat) {x : Str} (h : x ∈ pls) : rn (k+2) 21 [.val (.str x)] = some (.ret (.val (obD (.pl x))) [.val (.str x)]) := by
  simp [evSs, evS, evE, evEs, evB, evC, evO, evP, evI, callD, argSl, argSls, bors, wb, frz, frzs, sees, R.see, lockS, unlockS, asgS, asgR, retR, setD, asgT, unlockO, backA, endF, nIf, nIfs, isAnd, truD, RD.r, binO, binD, cmpR, cmpO, isVl, cmpD, biO, biD, ixD, Mn.Loc, keyD, keyD0, meD, recv, gtD, apD, isObj, runC, evF, tyN, ↓evS_fr, ↓evS_frt, ↓evE_lc, fn21, c21, b21i, is_place k h, obD]
theorem mk_end (k : Nat) {x : Str} (h : x = "bottom" ∨ x = "top") : rn (k+2) 22 [.val (.str x)] = some (.ret (.val (obD (.en x))) [.val (.str x)]) := by
  simp [evSs, evS, evE, evEs, evB, evC, evO, evP, evI, callD, argSl, argSls, bors, wb, frz, frzs, sees, R.see, lockS, unlockS, asgS, asgR, retR, setD, asgT, unlockO, backA, endF, nIf, nIfs, isAnd, truD, RD.r, binO, binD, cmpR, cmpO, isVl, cmpD, biO, biD, ixD, Mn.Loc, keyD, keyD0, meD, recv, gtD, apD, isObj, runC, evF, tyN, ↓evS_fr, ↓evS_frt, ↓evE_lc, fn22, c22, b22i, is_end k h, obD]
theorem want_term (k : Nat) (t : Tm) : rn (k+1) 2 [.val (obD t)] = some (.ret (.val .non) [.val (obD t)]) := by
  simp [evSs, evS, evE, evEs, evB, evC, evO, evP, evI, callD, argSl, argSls, bors, wb, frz, frzs, sees, R.see, lockS, unlockS, asgS, asgR, retR, setD, asgT, unlockO, backA, endF, nIf, nIfs, isAnd, truD, RD.r, binO, binD, cmpR, cmpO, isVl, cmpD, biO, biD, ixD, Mn.Loc, keyD, keyD0, meD, recv, gtD, apD, isObj, runC, evF, tyN, ↓evS_fr, ↓evS_frt, ↓evE_lc, fn2, b15, isc0 t]
def nlk : Sl → Bool
  | .lock _ => false
  | _ => true
theorem asgS_if (np : Nat × Nat) (i : Nat) (v : Sl) (δ : List Sl) : asgS np i v δ = if (np.1 ≤ i ∧ i < np.2) ∧ (δ[i]?).map nlk = some true then some (δ.set i v) else none := by
  unfold asgS
  by_cases c : Mn.Loc np i
  · rw [if_pos c]
    split
    · rename_i z; simp [evSs, evS, evE, evEs, evB, evC, evO, evP, evI, callD, argSl, argSls, bors, wb, frz, frzs, sees, R.see, lockS, unlockS, asgS, asgR, retR, setD, asgT, unlockO, backA, endF, nIf, nIfs, isAnd, truD, RD.r, binO, binD, cmpR, cmpO, isVl, cmpD, biO, biD, ixD, Mn.Loc, keyD, keyD0, meD, recv, gtD, apD, isObj, runC, evF, tyN, ↓evS_fr, ↓evS_frt, ↓evE_lc, z, nlk]
    · rename_i z q; rw [if_pos ⟨c, by cases s : (‹Sl› : Sl) <;> simp_all [nlk]⟩]
    · rename_i z; simp [evSs, evS, evE, evEs, evB, evC, evO, evP, evI, callD, argSl, argSls, bors, wb, frz, frzs, sees, R.see, lockS, unlockS, asgS, asgR, retR, setD, asgT, unlockO, backA, endF, nIf, nIfs, isAnd, truD, RD.r, binO, binD, cmpR, cmpO, isVl, cmpD, biO, biD, ixD, Mn.Loc, keyD, keyD0, meD, recv, gtD, apD, isObj, runC, evF, tyN, ↓evS_fr, ↓evS_frt, ↓evE_lc, z]
  · rw [if_neg c, if_neg fun q => c q.1]
theorem nl_un : nlk .un = true := rfl
theorem nl_val (d : D) : nlk (.val d) = true := rfl
theorem nl_own (d : List D) : nlk (.own d) = true := rfl
def lastT {α : Type} (F : α → D) (ts : List α) (s : Sl) : Sl := ts.foldl (fun _ t => .val (F t)) s
theorem nl_last {α : Type} (F : α → D) : ∀ (ts : List α) (s : Sl), nlk s = true → nlk (lastT F ts s) = true
  | [], s, h => h
  | t :: ts, s, h => nl_last F ts (.val (F t)) rfl
/-- a comprehension over a mapped list -/
theorem lcT {α : Type} {fe : List Sl → Option EO} {fc : List Sl → Option (Bool × List Sl)} {x : Nat} {δ : List Sl} (F G : α → D) (ts : List α) (s : Sl) (h0 : δ.set x s = δ) (hc : ∀ d, fc (δ.set x (.val d)) = some (true, δ.set x (.val d)))
    (he : ∀ t ∈ ts, fe (δ.set x (.val (F t))) = some (.ok (.val (G t)) (δ.set x (.val (F t))))) (hl : ts.length ≤ 1000000) : lcL fe fc x (ts.map F) δ [] = some (ts.map G, δ.set x (lastT F ts s)) := by
  have key : ∀ (ts : List α) (acc : List D) (s : Sl), (∀ t ∈ ts, fe (δ.set x (.val (F t))) = some (.ok (.val (G t)) (δ.set x (.val (F t))))) → acc.length + ts.length ≤ 1000000 →
      lcL fe fc x (ts.map F) (δ.set x s) acc = some (acc ++ ts.map G, δ.set x (lastT F ts s)) := by
    intro ts
    induction ts with
    | nil => intro acc s _ _; simp [evSs, evS, evE, evEs, evB, evC, evO, evP, evI, callD, argSl, argSls, bors, wb, frz, frzs, sees, R.see, lockS, unlockS, asgS, asgR, retR, setD, asgT, unlockO, backA, endF, nIf, nIfs, isAnd, truD, RD.r, binO, binD, cmpR, cmpO, isVl, cmpD, biO, biD, ixD, Mn.Loc, keyD, keyD0, meD, recv, gtD, apD, isObj, runC, evF, tyN, ↓evS_fr, ↓evS_frt, ↓evE_lc, lcL, lastT]
    | cons t ts ih =>
      intro acc s he hl
      have e1 := he t (by simp [evSs, evS, evE, evEs, evB, evC, evO, evP, evI, callD, argSl, argSls, bors, wb, frz, frzs, sees, R.see, lockS, unlockS, asgS, asgR, retR, setD, asgT, unlockO, backA, endF, nIf, nIfs, isAnd, truD, RD.r, binO, binD, cmpR, cmpO, isVl, cmpD, biO, biD, ixD, Mn.Loc, keyD, keyD0, meD, recv, gtD, apD, isObj, runC, evF, tyN, ↓evS_fr, ↓evS_frt, ↓evE_lc])
      simp [evSs, evS, evE, evEs, evB, evC, evO, evP, evI, callD, argSl, argSls, bors, wb, frz, frzs, sees, R.see, lockS, unlockS, asgS, asgR, retR, setD, asgT, unlockO, backA, endF, nIf, nIfs, isAnd, truD, RD.r, binO, binD, cmpR, cmpO, isVl, cmpD, biO, biD, ixD, Mn.Loc, keyD, keyD0, meD, recv, gtD, apD, isObj, runC, evF, tyN, ↓evS_fr, ↓evS_frt, ↓evE_lc] at hl
      have l1 : acc.length < 1000000 := by omega
      have := ih (acc ++ [G t]) (.val (F t)) (fun y hy => he y (by simp [evSs, evS, evE, evEs, evB, evC, evO, evP, evI, callD, argSl, argSls, bors, wb, frz, frzs, sees, R.see, lockS, unlockS, asgS, asgR, retR, setD, asgT, unlockO, backA, endF, nIf, nIfs, isAnd, truD, RD.r, binO, binD, cmpR, cmpO, isVl, cmpD, biO, biD, ixD, Mn.Loc, keyD, keyD0, meD, recv, gtD, apD, isObj, runC, evF, tyN, ↓evS_fr, ↓evS_frt, ↓evE_lc, hy])) (by simp [evSs, evS, evE, evEs, evB, evC, evO, evP, evI, callD, argSl, argSls, bors, wb, frz, frzs, sees, R.see, lockS, unlockS, asgS, asgR, retR, setD, asgT, unlockO, backA, endF, nIf, nIfs, isAnd, truD, RD.r, binO, binD, cmpR, cmpO, isVl, cmpD, biO, biD, ixD, Mn.Loc, keyD, keyD0, meD, recv, gtD, apD, isObj, runC, evF, tyN, ↓evS_fr, ↓evS_frt, ↓evE_lc]; omega)
      simp [evSs, evS, evE, evEs, evB, evC, evO, evP, evI, callD, argSl, argSls, bors, wb, frz, frzs, sees, R.see, lockS, unlockS, asgS, asgR, retR, setD, asgT, unlockO, backA, endF, nIf, nIfs, isAnd, truD, RD.r, binO, binD, cmpR, cmpO, isVl, cmpD, biO, biD, ixD, Mn.Loc, keyD, keyD0, meD, recv, gtD, apD, isObj, runC, evF, tyN, ↓evS_fr, ↓evS_frt, ↓evE_lc, lcL, List.set_set, hc, e1, l1, this, lastT]
  have := key ts [] s he (by simpa using hl)
  rw [h0] at this
  simpa using this
/-- a loop whose body changes nothing -/
theorem frT {α : Type} {np : Nat × Nat} {fb : List Sl → Option SO} {x : Nat} {δ : List Sl} (F : α → D) (ts : List α) (s : Sl) (h0 : δ.set x s = δ) (hn : nlk s = true) (hx : np.1 ≤ x ∧ x < np.2) (hd : x < δ.length)
    (he : ∀ t ∈ ts, fb (δ.set x (.val (F t))) = some (.nx (δ.set x (.val (F t))))) : frL np fb x (ts.map F) δ = some (.nx (δ.set x (lastT F ts s))) := by
  have key : ∀ (ts : List α) (s : Sl), nlk s = true → (∀ t ∈ ts, fb (δ.set x (.val (F t))) = some (.nx (δ.set x (.val (F t))))) → frL np fb x (ts.map F) (δ.set x s) = some (.nx (δ.set x (lastT F ts s))) := by
    intro ts
    induction ts with
    | nil => intro s _ _; simp [evSs, evS, evE, evEs, evB, evC, evO, evP, evI, callD, argSl, argSls, bors, wb, frz, frzs, sees, R.see, lockS, unlockS, asgS, asgR, retR, setD, asgT, unlockO, backA, endF, nIf, nIfs, isAnd, truD, RD.r, binO, binD, cmpR, cmpO, isVl, cmpD, biO, biD, ixD, Mn.Loc, keyD, keyD0, meD, recv, gtD, apD, isObj, runC, evF, tyN, ↓evS_fr, ↓evS_frt, ↓evE_lc, frL, lastT]
    | cons t ts ih =>
      intro s hs he
      have e1 := he t (by simp [evSs, evS, evE, evEs, evB, evC, evO, evP, evI, callD, argSl, argSls, bors, wb, frz, frzs, sees, R.see, lockS, unlockS, asgS, asgR, retR, setD, asgT, unlockO, backA, endF, nIf, nIfs, isAnd, truD, RD.r, binO, binD, cmpR, cmpO, isVl, cmpD, biO, biD, ixD, Mn.Loc, keyD, keyD0, meD, recv, gtD, apD, isObj, runC, evF, tyN, ↓evS_fr, ↓evS_frt, ↓evE_lc])
      have := ih (.val (F t)) rfl (fun y hy => he y (by simp [evSs, evS, evE, evEs, evB, evC, evO, evP, evI, callD, argSl, argSls, bors, wb, frz, frzs, sees, R.see, lockS, unlockS, asgS, asgR, retR, setD, asgT, unlockO, backA, endF, nIf, nIfs, isAnd, truD, RD.r, binO, binD, cmpR, cmpO, isVl, cmpD, biO, biD, ixD, Mn.Loc, keyD, keyD0, meD, recv, gtD, apD, isObj, runC, evF, tyN, ↓evS_fr, ↓evS_frt, ↓evE_lc, hy]))
      have ea : asgS np x (.val (F t)) (δ.set x s) = some (δ.set x (.val (F t))) := by
        rw [asgS_if, if_pos ⟨hx, by rw [List.getElem?_set_self hd]; simp [evSs, evS, evE, evEs, evB, evC, evO, evP, evI, callD, argSl, argSls, bors, wb, frz, frzs, sees, R.see, lockS, unlockS, asgS, asgR, retR, setD, asgT, unlockO, backA, endF, nIf, nIfs, isAnd, truD, RD.r, binO, binD, cmpR, cmpO, isVl, cmpD, biO, biD, ixD, Mn.Loc, keyD, keyD0, meD, recv, gtD, apD, isObj, runC, evF, tyN, ↓evS_fr, ↓evS_frt, ↓evE_lc, hs]⟩, List.set_set]
      rw [List.map_cons, frL, ea]
      simp only [e1]
      exact this
  have := key ts s hn he
  rw [h0] at this
  exact this
theorem want_terms (k : Nat) (ts : List Tm) : rn (k+2) 3 [.val (.tup (ts.map obD))] = some (.ret (.val .non) [.val (.tup (ts.map obD))]) := by
  simp [evSs, evS, evE, evEs, evB, evC, evO, evP, evI, callD, argSl, argSls, bors, wb, frz, frzs, sees, R.see, lockS, unlockS, asgS, asgR, retR, setD, asgT, unlockO, backA, endF, nIf, nIfs, isAnd, truD, RD.r, binO, binD, cmpR, cmpO, isVl, cmpD, biO, biD, ixD, Mn.Loc, keyD, keyD0, meD, recv, gtD, apD, isObj, runC, evF, tyN, ↓evS_fr, ↓evS_frt, ↓evE_lc, fn3, b16]
  rw [frT obD ts .un rfl rfl (by decide) (by simp [evSs, evS, evE, evEs, evB, evC, evO, evP, evI, callD, argSl, argSls, bors, wb, frz, frzs, sees, R.see, lockS, unlockS, asgS, asgR, retR, setD, asgT, unlockO, backA, endF, nIf, nIfs, isAnd, truD, RD.r, binO, binD, cmpR, cmpO, isVl, cmpD, biO, biD, ixD, Mn.Loc, keyD, keyD0, meD, recv, gtD, apD, isObj, runC, evF, tyN, ↓evS_fr, ↓evS_frt, ↓evE_lc]) (fun t _ => by simp [evSs, evS, evE, evEs, evB, evC, evO, evP, evI, callD, argSl, argSls, bors, wb, frz, frzs, sees, R.see, lockS, unlockS, asgS, asgR, retR, setD, asgT, unlockO, backA, endF, nIf, nIfs, isAnd, truD, RD.r, binO, binD, cmpR, cmpO, isVl, cmpD, biO, biD, ixD, Mn.Loc, keyD, keyD0, meD, recv, gtD, apD, isObj, runC, evF, tyN, ↓evS_fr, ↓evS_frt, ↓evE_lc, lpS, want_term k t])]
  simp [evSs, evS, evE, evEs, evB, evC, evO, evP, evI, callD, argSl, argSls, bors, wb, frz, frzs, sees, R.see, lockS, unlockS, asgS, asgR, retR, setD, asgT, unlockO, backA, endF, nIf, nIfs, isAnd, truD, RD.r, binO, binD, cmpR, cmpO, isVl, cmpD, biO, biD, ixD, Mn.Loc, keyD, keyD0, meD, recv, gtD, apD, isObj, runC, evF, tyN, ↓evS_fr, ↓evS_frt, ↓evE_lc]
theorem asInts_n : ∀ ts : List Tm, asInts (ts.map fun t => .int (dep t : Nat)) = some (ts.map fun t => (dep t : Int))
  | [] => rfl
  | t :: ts => by simp [evSs, evS, evE, evEs, evB, evC, evO, evP, evI, callD, argSl, argSls, bors, wb, frz, frzs, sees, R.see, lockS, unlockS, asgS, asgR, retR, setD, asgT, unlockO, backA, endF, nIf, nIfs, isAnd, truD, RD.r, binO, binD, cmpR, cmpO, isVl, cmpD, biO, biD, ixD, Mn.Loc, keyD, keyD0, meD, recv, gtD, apD, isObj, runC, evF, tyN, ↓evS_fr, ↓evS_frt, ↓evE_lc, asInts, asInts_n ts]
theorem maxI_d : ∀ ts : List Tm, maxI (ts.map fun t => (dep t : Int)) = (deps ts : Nat)
  | [] => rfl
  | [t] => by simp [evSs, evS, evE, evEs, evB, evC, evO, evP, evI, callD, argSl, argSls, bors, wb, frz, frzs, sees, R.see, lockS, unlockS, asgS, asgR, retR, setD, asgT, unlockO, backA, endF, nIf, nIfs, isAnd, truD, RD.r, binO, binD, cmpR, cmpO, isVl, cmpD, biO, biD, ixD, Mn.Loc, keyD, keyD0, meD, recv, gtD, apD, isObj, runC, evF, tyN, ↓evS_fr, ↓evS_frt, ↓evE_lc, maxI, deps]
  | t :: u :: r => by
    have := maxI_d (u :: r)
    simp only [List.map_cons] at this ⊢
    rw [maxI, this]
    show _ = ((max (dep t) (deps (u :: r)) : Nat) : Int)
    split <;> omega
theorem depth_above (k : Nat) {ts : List Tm} (h : 2 ≤ ts.length) (h2 : ts.length ≤ 8) : rn (k+3) 4 [.val (.tup (ts.map obD))] = some (.ret (.val (.int (1 + (deps ts : Nat)))) [.val (.tup (ts.map obD))]) := by
  have h3 : ¬ ((ts.length : Int) < 2) := by omega
  have c : big = 1000000 := rfl
  simp [evSs, evS, evE, evEs, evB, evC, evO, evP, evI, callD, argSl, argSls, bors, wb, frz, frzs, sees, R.see, lockS, unlockS, asgS, asgR, retR, setD, asgT, unlockO, backA, endF, nIf, nIfs, isAnd, truD, RD.r, binO, binD, cmpR, cmpO, isVl, cmpD, biO, biD, ixD, Mn.Loc, keyD, keyD0, meD, recv, gtD, apD, isObj, runC, evF, tyN, ↓evS_fr, ↓evS_frt, ↓evE_lc, fn4, b17, gl4, h3, want_terms k ts]
  rw [lcT obD (fun t => .int (dep t : Nat)) ts .un rfl (fun d => by simp [evSs, evS, evE, evEs, evB, evC, evO, evP, evI, callD, argSl, argSls, bors, wb, frz, frzs, sees, R.see, lockS, unlockS, asgS, asgR, retR, setD, asgT, unlockO, backA, endF, nIf, nIfs, isAnd, truD, RD.r, binO, binD, cmpR, cmpO, isVl, cmpD, biO, biD, ixD, Mn.Loc, keyD, keyD0, meD, recv, gtD, apD, isObj, runC, evF, tyN, ↓evS_fr, ↓evS_frt, ↓evE_lc, lpC]) (fun t _ => by simp [evSs, evS, evE, evEs, evB, evC, evO, evP, evI, callD, argSl, argSls, bors, wb, frz, frzs, sees, R.see, lockS, unlockS, asgS, asgR, retR, setD, asgT, unlockO, backA, endF, nIf, nIfs, isAnd, truD, RD.r, binO, binD, cmpR, cmpO, isVl, cmpD, biO, biD, ixD, Mn.Loc, keyD, keyD0, meD, recv, gtD, apD, isObj, runC, evF, tyN, ↓evS_fr, ↓evS_frt, ↓evE_lc, lpE, at_depth t]) (by omega)]
  have e := maxI_d ts
  cases ts with
  | nil => simp [evSs, evS, evE, evEs, evB, evC, evO, evP, evI, callD, argSl, argSls, bors, wb, frz, frzs, sees, R.see, lockS, unlockS, asgS, asgR, retR, setD, asgT, unlockO, backA, endF, nIf, nIfs, isAnd, truD, RD.r, binO, binD, cmpR, cmpO, isVl, cmpD, biO, biD, ixD, Mn.Loc, keyD, keyD0, meD, recv, gtD, apD, isObj, runC, evF, tyN, ↓evS_fr, ↓evS_frt, ↓evE_lc] at h
  | cons t ts =>
    have ei := asInts_n (t :: ts)
    simp only [List.map_cons] at ei e
    simp [evSs, evS, evE, evEs, evB, evC, evO, evP, evI, callD, argSl, argSls, bors, wb, frz, frzs, sees, R.see, lockS, unlockS, asgS, asgR, retR, setD, asgT, unlockO, backA, endF, nIf, nIfs, isAnd, truD, RD.r, binO, binD, cmpR, cmpO, isVl, cmpD, biO, biD, ixD, Mn.Loc, keyD, keyD0, meD, recv, gtD, apD, isObj, runC, evF, tyN, ↓evS_fr, ↓evS_frt, ↓evE_lc, ei, e]
theorem mk_nd (k : Nat) (g : Bool) {ts : List Tm} (h : 2 ≤ ts.length) (h2 : ts.length ≤ 8) : rn (k+4) (if g then 24 else 23) (ts.map fun t => .val (obD t)) = some (.ret (.val (obD (.nd g ts))) (ts.map fun t => .val (obD t))) := by
  have hv : ∀ ts : List Tm, vals (ts.map fun t => .val (obD t)) = some (ts.map obD) := by
    intro ts
    induction ts with
    | nil => rfl
    | cons t ts ih => simp [evSs, evS, evE, evEs, evB, evC, evO, evP, evI, callD, argSl, argSls, bors, wb, frz, frzs, sees, R.see, lockS, unlockS, asgS, asgR, retR, setD, asgT, unlockO, backA, endF, nIf, nIfs, isAnd, truD, RD.r, binO, binD, cmpR, cmpO, isVl, cmpD, biO, biD, ixD, Mn.Loc, keyD, keyD0, meD, recv, gtD, apD, isObj, runC, evF, tyN, ↓evS_fr, ↓evS_frt, ↓evE_lc, vals, ih]
  have hb : (ts.map obD).length ≤ big := by rw [List.length_map]; exact Nat.le_trans h2 (by decide)
  cases g with
  | false =>
    have e : rn (k+4) 23 (ts.map fun t => .val (obD t)) = starC (k+3) c23 (ts.map fun t => .val (obD t)) := fn23 _ _
    simp only [Bool.false_eq_true, if_false]
    rw [e]
    simp only [starC, hv, hb, if_true]
    simp [evSs, evS, evE, evEs, evB, evC, evO, evP, evI, callD, argSl, argSls, bors, wb, frz, frzs, sees, R.see, lockS, unlockS, asgS, asgR, retR, setD, asgT, unlockO, backA, endF, nIf, nIfs, isAnd, truD, RD.r, binO, binD, cmpR, cmpO, isVl, cmpD, biO, biD, ixD, Mn.Loc, keyD, keyD0, meD, recv, gtD, apD, isObj, runC, evF, tyN, ↓evS_fr, ↓evS_frt, ↓evE_lc, c23, b23i, depth_above k h h2, obD, obDs_map]
  | true =>
    have e : rn (k+4) 24 (ts.map fun t => .val (obD t)) = starC (k+3) c24 (ts.map fun t => .val (obD t)) := fn24 _ _
    simp only [if_true]
    rw [e]
    simp only [starC, hv, hb, if_true]
    simp [evSs, evS, evE, evEs, evB, evC, evO, evP, evI, callD, argSl, argSls, bors, wb, frz, frzs, sees, R.see, lockS, unlockS, asgS, asgR, retR, setD, asgT, unlockO, backA, endF, nIf, nIfs, isAnd, truD, RD.r, binO, binD, cmpR, cmpO, isVl, cmpD, biO, biD, ixD, Mn.Loc, keyD, keyD0, meD, recv, gtD, apD, isObj, runC, evF, tyN, ↓evS_fr, ↓evS_frt, ↓evE_lc, c24, b24i, depth_above k h h2, obD, obDs_map]
end K13

-- P13c
set_option Elab.async false
set_option linter.all false
set_option maxRecDepth 100000
set_option maxHeartbeats 4000000
set_option autoImplicit false
namespace K13
open PySem Mn
theorem q_pp : eqD (.str "place") (.str "place") = some true := by decide +kernel
theorem q_ep : eqD (.str "end") (.str "place") = some false := by decide +kernel
theorem q_ee : eqD (.str "end") (.str "end") = some true := by decide +kernel
theorem q_lp : eqD (.str "lesser") (.str "place") = some false := by decide +kernel
theorem q_gp : eqD (.str "greater") (.str "place") = some false := by decide +kernel
theorem q_le : eqD (.str "lesser") (.str "end") = some false := by decide +kernel
theorem q_ge : eqD (.str "greater") (.str "end") = some false := by decide +kernel
theorem q_ll : eqD (.str "lesser") (.str "lesser") = some true := by decide +kernel
theorem q_gl : eqD (.str "greater") (.str "lesser") = some false := by decide +kernel
def wd (g : Bool) : Str := if g then "greater" else "lesser"
theorem wd_f : wd false = "lesser" := rfl
theorem wd_t : wd true = "greater" := rfl
theorem joined (k : Nat) (g : Bool) {ts : List Tm} (h : ts.length = 2 ∨ ts.length = 3 ∨ ts.length = 4 ∨ ts.length = 8) : rn (k+5) 12 [.val (.str (wd g)), .own (ts.map obD)] = some (.ret (.val (obD (.nd g ts))) [.val (.str (wd g)), .own (ts.map obD)]) := by
  have e := mk_nd k g (ts := ts) (by omega) (by omega)
  rcases h with h | h | h | h
  · match ts, h with
    | [a, b], _ =>
      cases g <;> (simp [evSs, evS, evE, evEs, evB, evC, evO, evP, evI, callD, argSl, argSls, bors, wb, frz, frzs, sees, R.see, lockS, unlockS, asgR, retR, setD, asgT, unlockO, backA, endF, nIf, nIfs, isAnd, truD, RD.r, binO, binD, cmpR, cmpO, isVl, cmpD, biO, biD, ixD, Mn.Loc, keyD, keyD0, meD, recv, gtD, apD, isObj, runC, evF, tyN, ↓evS_fr, ↓evS_frt, ↓evE_lc, L2.atI, L2.ixN, big, asgS_if, nl_un, nl_val, nl_own, q_pp, q_ep, q_ee, q_lp, q_gp, q_le, q_ge, q_ll, q_gl, eq_ii, wd_f, wd_t] at e; simp [evSs, evS, evE, evEs, evB, evC, evO, evP, evI, callD, argSl, argSls, bors, wb, frz, frzs, sees, R.see, lockS, unlockS, asgR, retR, setD, asgT, unlockO, backA, endF, nIf, nIfs, isAnd, truD, RD.r, binO, binD, cmpR, cmpO, isVl, cmpD, biO, biD, ixD, Mn.Loc, keyD, keyD0, meD, recv, gtD, apD, isObj, runC, evF, tyN, ↓evS_fr, ↓evS_frt, ↓evE_lc, L2.atI, L2.ixN, big, asgS_if, nl_un, nl_val, nl_own, q_pp, q_ep, q_ee, q_lp, q_gp, q_le, q_ge, q_ll, q_gl, eq_ii, wd_f, wd_t, fn12, b31, e])
  · match ts, h with
    | [a, b, c], _ =>
      cases g <;> (simp [evSs, evS, evE, evEs, evB, evC, evO, evP, evI, callD, argSl, argSls, bors, wb, frz, frzs, sees, R.see, lockS, unlockS, asgR, retR, setD, asgT, unlockO, backA, endF, nIf, nIfs, isAnd, truD, RD.r, binO, binD, cmpR, cmpO, isVl, cmpD, biO, biD, ixD, Mn.Loc, keyD, keyD0, meD, recv, gtD, apD, isObj, runC, evF, tyN, ↓evS_fr, ↓evS_frt, ↓evE_lc, L2.atI, L2.ixN, big, asgS_if, nl_un, nl_val, nl_own, q_pp, q_ep, q_ee, q_lp, q_gp, q_le, q_ge, q_ll, q_gl, eq_ii, wd_f, wd_t] at e; simp [evSs, evS, evE, evEs, evB, evC, evO, evP, evI, callD, argSl, argSls, bors, wb, frz, frzs, sees, R.see, lockS, unlockS, asgR, retR, setD, asgT, unlockO, backA, endF, nIf, nIfs, isAnd, truD, RD.r, binO, binD, cmpR, cmpO, isVl, cmpD, biO, biD, ixD, Mn.Loc, keyD, keyD0, meD, recv, gtD, apD, isObj, runC, evF, tyN, ↓evS_fr, ↓evS_frt, ↓evE_lc, L2.atI, L2.ixN, big, asgS_if, nl_un, nl_val, nl_own, q_pp, q_ep, q_ee, q_lp, q_gp, q_le, q_ge, q_ll, q_gl, eq_ii, wd_f, wd_t, fn12, b31, e])
  · match ts, h with
    | [a, b, c, d], _ =>
      cases g <;> (simp [evSs, evS, evE, evEs, evB, evC, evO, evP, evI, callD, argSl, argSls, bors, wb, frz, frzs, sees, R.see, lockS, unlockS, asgR, retR, setD, asgT, unlockO, backA, endF, nIf, nIfs, isAnd, truD, RD.r, binO, binD, cmpR, cmpO, isVl, cmpD, biO, biD, ixD, Mn.Loc, keyD, keyD0, meD, recv, gtD, apD, isObj, runC, evF, tyN, ↓evS_fr, ↓evS_frt, ↓evE_lc, L2.atI, L2.ixN, big, asgS_if, nl_un, nl_val, nl_own, q_pp, q_ep, q_ee, q_lp, q_gp, q_le, q_ge, q_ll, q_gl, eq_ii, wd_f, wd_t] at e; simp [evSs, evS, evE, evEs, evB, evC, evO, evP, evI, callD, argSl, argSls, bors, wb, frz, frzs, sees, R.see, lockS, unlockS, asgR, retR, setD, asgT, unlockO, backA, endF, nIf, nIfs, isAnd, truD, RD.r, binO, binD, cmpR, cmpO, isVl, cmpD, biO, biD, ixD, Mn.Loc, keyD, keyD0, meD, recv, gtD, apD, isObj, runC, evF, tyN, ↓evS_fr, ↓evS_frt, ↓evE_lc, L2.atI, L2.ixN, big, asgS_if, nl_un, nl_val, nl_own, q_pp, q_ep, q_ee, q_lp, q_gp, q_le, q_ge, q_ll, q_gl, eq_ii, wd_f, wd_t, fn12, b31, e])
  · match ts, h with
    | [a, b, c, d, a1, b1, c1, d1], _ =>
      cases g <;> (simp [evSs, evS, evE, evEs, evB, evC, evO, evP, evI, callD, argSl, argSls, bors, wb, frz, frzs, sees, R.see, lockS, unlockS, asgR, retR, setD, asgT, unlockO, backA, endF, nIf, nIfs, isAnd, truD, RD.r, binO, binD, cmpR, cmpO, isVl, cmpD, biO, biD, ixD, Mn.Loc, keyD, keyD0, meD, recv, gtD, apD, isObj, runC, evF, tyN, ↓evS_fr, ↓evS_frt, ↓evE_lc, L2.atI, L2.ixN, big, asgS_if, nl_un, nl_val, nl_own, q_pp, q_ep, q_ee, q_lp, q_gp, q_le, q_ge, q_ll, q_gl, eq_ii, wd_f, wd_t] at e; simp [evSs, evS, evE, evEs, evB, evC, evO, evP, evI, callD, argSl, argSls, bors, wb, frz, frzs, sees, R.see, lockS, unlockS, asgR, retR, setD, asgT, unlockO, backA, endF, nIf, nIfs, isAnd, truD, RD.r, binO, binD, cmpR, cmpO, isVl, cmpD, biO, biD, ixD, Mn.Loc, keyD, keyD0, meD, recv, gtD, apD, isObj, runC, evF, tyN, ↓evS_fr, ↓evS_frt, ↓evE_lc, L2.atI, L2.ixN, big, asgS_if, nl_un, nl_val, nl_own, q_pp, q_ep, q_ee, q_lp, q_gp, q_le, q_ge, q_ll, q_gl, eq_ii, wd_f, wd_t, fn12, b31, e])
theorem Wf.len {g : Bool} {ps : List Tm} (h : Wf (.nd g ps)) : ps.length = 2 ∨ ps.length = 3 ∨ ps.length = 4 ∨ ps.length = 8 := by
  cases h; assumption
theorem real {t : Tm} (h : Wf t) : ∀ n, dep t + 7 ≤ n → rn n 13 [.val (tmD t)] = some (.ret (.val (obD t)) [.val (tmD t)]) := by
  induction h with
  | pl hx =>
    intro n hn
    obtain ⟨k, rfl⟩ : ∃ k, n = k + 3 := ⟨n - 3, by simp [evSs, evS, evE, evEs, evB, evC, evO, evP, evI, callD, argSl, argSls, bors, wb, frz, frzs, sees, R.see, lockS, unlockS, asgR, retR, setD, asgT, unlockO, backA, endF, nIf, nIfs, isAnd, truD, RD.r, binO, binD, cmpR, cmpO, isVl, cmpD, biO, biD, ixD, Mn.Loc, keyD, keyD0, meD, recv, gtD, apD, isObj, runC, evF, tyN, ↓evS_fr, ↓evS_frt, ↓evE_lc, L2.atI, L2.ixN, big, asgS_if, nl_un, nl_val, nl_own, q_pp, q_ep, q_ee, q_lp, q_gp, q_le, q_ge, q_ll, q_gl, eq_ii, wd_f, wd_t, dep] at hn; omega⟩
    simp [evSs, evS, evE, evEs, evB, evC, evO, evP, evI, callD, argSl, argSls, bors, wb, frz, frzs, sees, R.see, lockS, unlockS, asgR, retR, setD, asgT, unlockO, backA, endF, nIf, nIfs, isAnd, truD, RD.r, binO, binD, cmpR, cmpO, isVl, cmpD, biO, biD, ixD, Mn.Loc, keyD, keyD0, meD, recv, gtD, apD, isObj, runC, evF, tyN, ↓evS_fr, ↓evS_frt, ↓evE_lc, L2.atI, L2.ixN, big, asgS_if, nl_un, nl_val, nl_own, q_pp, q_ep, q_ee, q_lp, q_gp, q_le, q_ge, q_ll, q_gl, eq_ii, wd_f, wd_t, fn13, b32, tmD, mk_place k hx]
  | en hx =>
    intro n hn
    obtain ⟨k, rfl⟩ : ∃ k, n = k + 3 := ⟨n - 3, by simp [evSs, evS, evE, evEs, evB, evC, evO, evP, evI, callD, argSl, argSls, bors, wb, frz, frzs, sees, R.see, lockS, unlockS, asgR, retR, setD, asgT, unlockO, backA, endF, nIf, nIfs, isAnd, truD, RD.r, binO, binD, cmpR, cmpO, isVl, cmpD, biO, biD, ixD, Mn.Loc, keyD, keyD0, meD, recv, gtD, apD, isObj, runC, evF, tyN, ↓evS_fr, ↓evS_frt, ↓evE_lc, L2.atI, L2.ixN, big, asgS_if, nl_un, nl_val, nl_own, q_pp, q_ep, q_ee, q_lp, q_gp, q_le, q_ge, q_ll, q_gl, eq_ii, wd_f, wd_t, dep] at hn; omega⟩
    simp [evSs, evS, evE, evEs, evB, evC, evO, evP, evI, callD, argSl, argSls, bors, wb, frz, frzs, sees, R.see, lockS, unlockS, asgR, retR, setD, asgT, unlockO, backA, endF, nIf, nIfs, isAnd, truD, RD.r, binO, binD, cmpR, cmpO, isVl, cmpD, biO, biD, ixD, Mn.Loc, keyD, keyD0, meD, recv, gtD, apD, isObj, runC, evF, tyN, ↓evS_fr, ↓evS_frt, ↓evE_lc, L2.atI, L2.ixN, big, asgS_if, nl_un, nl_val, nl_own, q_pp, q_ep, q_ee, q_lp, q_gp, q_le, q_ge, q_ll, q_gl, eq_ii, wd_f, wd_t, fn13, b32, tmD, mk_end k hx]
  | @nd g ps hp hl ih =>
    intro n hn
    simp [evSs, evS, evE, evEs, evB, evC, evO, evP, evI, callD, argSl, argSls, bors, wb, frz, frzs, sees, R.see, lockS, unlockS, asgR, retR, setD, asgT, unlockO, backA, endF, nIf, nIfs, isAnd, truD, RD.r, binO, binD, cmpR, cmpO, isVl, cmpD, biO, biD, ixD, Mn.Loc, keyD, keyD0, meD, recv, gtD, apD, isObj, runC, evF, tyN, ↓evS_fr, ↓evS_frt, ↓evE_lc, L2.atI, L2.ixN, big, asgS_if, nl_un, nl_val, nl_own, q_pp, q_ep, q_ee, q_lp, q_gp, q_le, q_ge, q_ll, q_gl, eq_ii, wd_f, wd_t, dep] at hn
    obtain ⟨k, rfl⟩ : ∃ k, n = k + 6 := ⟨n - 6, by omega⟩
    have e := joined k g (ts := ps) hl
    have hlen : ps.length ≤ 1000000 := by omega
    cases g <;>
    · simp [evSs, evS, evE, evEs, evB, evC, evO, evP, evI, callD, argSl, argSls, bors, wb, frz, frzs, sees, R.see, lockS, unlockS, asgR, retR, setD, asgT, unlockO, backA, endF, nIf, nIfs, isAnd, truD, RD.r, binO, binD, cmpR, cmpO, isVl, cmpD, biO, biD, ixD, Mn.Loc, keyD, keyD0, meD, recv, gtD, apD, isObj, runC, evF, tyN, ↓evS_fr, ↓evS_frt, ↓evE_lc, L2.atI, L2.ixN, big, asgS_if, nl_un, nl_val, nl_own, q_pp, q_ep, q_ee, q_lp, q_gp, q_le, q_ge, q_ll, q_gl, eq_ii, wd_f, wd_t] at e
      simp [evSs, evS, evE, evEs, evB, evC, evO, evP, evI, callD, argSl, argSls, bors, wb, frz, frzs, sees, R.see, lockS, unlockS, asgR, retR, setD, asgT, unlockO, backA, endF, nIf, nIfs, isAnd, truD, RD.r, binO, binD, cmpR, cmpO, isVl, cmpD, biO, biD, ixD, Mn.Loc, keyD, keyD0, meD, recv, gtD, apD, isObj, runC, evF, tyN, ↓evS_fr, ↓evS_frt, ↓evE_lc, L2.atI, L2.ixN, big, asgS_if, nl_un, nl_val, nl_own, q_pp, q_ep, q_ee, q_lp, q_gp, q_le, q_ge, q_ll, q_gl, eq_ii, wd_f, wd_t, fn13, b32, tmD, tmDs_map]
      rw [lcT tmD obD ps .un rfl (fun d => by simp [evSs, evS, evE, evEs, evB, evC, evO, evP, evI, callD, argSl, argSls, bors, wb, frz, frzs, sees, R.see, lockS, unlockS, asgR, retR, setD, asgT, unlockO, backA, endF, nIf, nIfs, isAnd, truD, RD.r, binO, binD, cmpR, cmpO, isVl, cmpD, biO, biD, ixD, Mn.Loc, keyD, keyD0, meD, recv, gtD, apD, isObj, runC, evF, tyN, ↓evS_fr, ↓evS_frt, ↓evE_lc, L2.atI, L2.ixN, big, asgS_if, nl_un, nl_val, nl_own, q_pp, q_ep, q_ee, q_lp, q_gp, q_le, q_ge, q_ll, q_gl, eq_ii, wd_f, wd_t, lpC]) (fun t ht => by
        have := dep_le ht
        simp [evSs, evS, evE, evEs, evB, evC, evO, evP, evI, callD, argSl, argSls, bors, wb, frz, frzs, sees, R.see, lockS, unlockS, asgR, retR, setD, asgT, unlockO, backA, endF, nIf, nIfs, isAnd, truD, RD.r, binO, binD, cmpR, cmpO, isVl, cmpD, biO, biD, ixD, Mn.Loc, keyD, keyD0, meD, recv, gtD, apD, isObj, runC, evF, tyN, ↓evS_fr, ↓evS_frt, ↓evE_lc, L2.atI, L2.ixN, big, asgS_if, nl_un, nl_val, nl_own, q_pp, q_ep, q_ee, q_lp, q_gp, q_le, q_ge, q_ll, q_gl, eq_ii, wd_f, wd_t, lpE, ih t ht (k+5) (by omega)]) hlen]
      simp [evSs, evS, evE, evEs, evB, evC, evO, evP, evI, callD, argSl, argSls, bors, wb, frz, frzs, sees, R.see, lockS, unlockS, asgR, retR, setD, asgT, unlockO, backA, endF, nIf, nIfs, isAnd, truD, RD.r, binO, binD, cmpR, cmpO, isVl, cmpD, biO, biD, ixD, Mn.Loc, keyD, keyD0, meD, recv, gtD, apD, isObj, runC, evF, tyN, ↓evS_fr, ↓evS_frt, ↓evE_lc, L2.atI, L2.ixN, big, asgS_if, nl_un, nl_val, nl_own, q_pp, q_ep, q_ee, q_lp, q_gp, q_le, q_ge, q_ll, q_gl, eq_ii, wd_f, wd_t, e]
end K13

-- P13d
set_option Elab.async false
set_option linter.all false
set_option maxRecDepth 100000
set_option maxHeartbeats 4000000
set_option autoImplicit false
namespace K13
open PySem Mn
theorem n_pe : (Str.ofString "place" = Str.ofString "end") = False := by decide +kernel
theorem n_pl : (Str.ofString "place" = Str.ofString "lesser") = False := by decide +kernel
theorem n_pg : (Str.ofString "place" = Str.ofString "greater") = False := by decide +kernel
theorem n_ep : (Str.ofString "end" = Str.ofString "place") = False := by decide +kernel
theorem n_el : (Str.ofString "end" = Str.ofString "lesser") = False := by decide +kernel
theorem n_eg : (Str.ofString "end" = Str.ofString "greater") = False := by decide +kernel
theorem n_lp : (Str.ofString "lesser" = Str.ofString "place") = False := by decide +kernel
theorem n_le : (Str.ofString "lesser" = Str.ofString "end") = False := by decide +kernel
theorem n_lg : (Str.ofString "lesser" = Str.ofString "greater") = False := by decide +kernel
theorem n_gp : (Str.ofString "greater" = Str.ofString "place") = False := by decide +kernel
theorem n_ge : (Str.ofString "greater" = Str.ofString "end") = False := by decide +kernel
theorem n_gl : (Str.ofString "greater" = Str.ofString "lesser") = False := by decide +kernel
theorem k_p : inD (.str "place") [.str "lesser", .str "greater"] = some false := by decide +kernel
theorem k_e : inD (.str "end") [.str "lesser", .str "greater"] = some false := by decide +kernel
theorem k_l : inD (.str "lesser") [.str "lesser", .str "greater"] = some true := by decide +kernel
theorem k_g : inD (.str "greater") [.str "lesser", .str "greater"] = some true := by decide +kernel
theorem j_p : inD (.str "place") [.str "place", .str "end"] = some true := by decide +kernel
theorem j_e : inD (.str "end") [.str "place", .str "end"] = some true := by decide +kernel
theorem j_l : inD (.str "lesser") [.str "place", .str "end"] = some false := by decide +kernel
theorem j_g : inD (.str "greater") [.str "place", .str "end"] = some false := by decide +kernel
theorem app_len (a b : Str) : (a ++ b).length = a.length + b.length := by
  show (a.cps ++ b.cps).size = _
  rw [Array.size_append] <;> rfl
theorem app_assoc (a b c : Str) : (a ++ b) ++ c = a ++ (b ++ c) := by
  show (⟨(a.cps ++ b.cps) ++ c.cps⟩ : Str) = ⟨a.cps ++ (b.cps ++ c.cps)⟩
  rw [Array.append_assoc]
theorem app_emp (a : Str) : a ++ Str.empty = a := by
  show (⟨a.cps ++ #[]⟩ : Str) = a
  rw [Array.append_empty]
def inn (p : Tm) (s : Str) : Str := match p with
  | .nd _ _ => ("(" ++ s) ++ ")"
  | _ => s
def sg (g : Bool) : Str := if g then " | " else " & "
def cw (g : Bool) : Str := if g then "Greater" else "Lesser"
mutual
def txt : Tm → Str
  | .pl x => x
  | .en x => x
  | .nd g ps => Txt.join (sg g) (itxs ps)
def itxs : List Tm → List Str
  | [] => []
  | p :: ps => inn p (txt p) :: itxs ps
end
def itx (p : Tm) : Str := inn p (txt p)
theorem itxs_map : ∀ ps : List Tm, itxs ps = ps.map itx
  | [] => rfl
  | p :: ps => by rw [itxs, itxs_map ps]; rfl
mutual
def wr : Tm → Str
  | .pl x => (((Str.ofString "Place") ++ (Str.ofString "('")) ++ x) ++ (Str.ofString "')")
  | .en x => (((Str.ofString "End") ++ (Str.ofString "('")) ++ x) ++ (Str.ofString "')")
  | .nd g ps => ((cw g ++ (Str.ofString "(")) ++ Txt.join (Str.ofString ", ") (wrs ps)) ++ (Str.ofString ")")
def wrs : List Tm → List Str
  | [] => []
  | p :: ps => wr p :: wrs ps
end
theorem wrs_map : ∀ ps : List Tm, wrs ps = ps.map wr
  | [] => rfl
  | p :: ps => by rw [wrs, wrs_map ps]; rfl
/-- how long a text is at most -/
def L : Nat → Nat
  | 0 => 14
  | d + 1 => 8 * L d + 40
theorem L_mono : ∀ {a b : Nat}, a ≤ b → L a ≤ L b
  | 0, 0, _ => Nat.le_refl _
  | 0, b + 1, _ => by
    have := L_mono (a := 0) (b := b) (by omega)
    show L 0 ≤ 8 * L b + 40
    omega
  | a + 1, b + 1, h => by
    have := L_mono (a := a) (b := b) (by omega)
    rw [L, L]
    omega
theorem L5 : L 5 = 645992 := by decide
theorem sum_le {α : Type} (f : α → Nat) (M : Nat) : ∀ l : List α, (∀ x ∈ l, f x ≤ M) → (l.map f).sum ≤ l.length * M
  | [], _ => by simp [evSs, evS, evE, evEs, evB, evC, evO, evP, evI, callD, argSl, argSls, bors, wb, frz, frzs, sees, R.see, lockS, unlockS, asgR, retR, setD, asgT, unlockO, backA, endF, nIf, nIfs, isAnd, truD, RD.r, binO, binD, cmpR, cmpO, isVl, cmpD, biO, biD, ixD, Mn.Loc, keyD, keyD0, meD, recv, gtD, apD, isObj, runC, evF, tyN, ↓evS_fr, ↓evS_frt, ↓evE_lc, L2.atI, L2.ixN, big, asgS_if, nl_un, nl_val, nl_own, q_pp, q_ep, q_ee, q_lp, q_gp, q_le, q_ge, q_ll, q_gl, eq_ii, wd_f, wd_t, n_pe, n_pl, n_pg, n_ep, n_el, n_eg, n_lp, n_le, n_lg, n_gp, n_ge, n_gl, k_p, k_e, k_l, k_g, j_p, j_e, j_l, j_g, putD]
  | x :: l, h => by
    have h1 := h x (by simp [evSs, evS, evE, evEs, evB, evC, evO, evP, evI, callD, argSl, argSls, bors, wb, frz, frzs, sees, R.see, lockS, unlockS, asgR, retR, setD, asgT, unlockO, backA, endF, nIf, nIfs, isAnd, truD, RD.r, binO, binD, cmpR, cmpO, isVl, cmpD, biO, biD, ixD, Mn.Loc, keyD, keyD0, meD, recv, gtD, apD, isObj, runC, evF, tyN, ↓evS_fr, ↓evS_frt, ↓evE_lc, L2.atI, L2.ixN, big, asgS_if, nl_un, nl_val, nl_own, q_pp, q_ep, q_ee, q_lp, q_gp, q_le, q_ge, q_ll, q_gl, eq_ii, wd_f, wd_t, n_pe, n_pl, n_pg, n_ep, n_el, n_eg, n_lp, n_le, n_lg, n_gp, n_ge, n_gl, k_p, k_e, k_l, k_g, j_p, j_e, j_l, j_g, putD])
    have h2 := sum_le f M l (fun y hy => h y (by simp [evSs, evS, evE, evEs, evB, evC, evO, evP, evI, callD, argSl, argSls, bors, wb, frz, frzs, sees, R.see, lockS, unlockS, asgR, retR, setD, asgT, unlockO, backA, endF, nIf, nIfs, isAnd, truD, RD.r, binO, binD, cmpR, cmpO, isVl, cmpD, biO, biD, ixD, Mn.Loc, keyD, keyD0, meD, recv, gtD, apD, isObj, runC, evF, tyN, ↓evS_fr, ↓evS_frt, ↓evE_lc, L2.atI, L2.ixN, big, asgS_if, nl_un, nl_val, nl_own, q_pp, q_ep, q_ee, q_lp, q_gp, q_le, q_ge, q_ll, q_gl, eq_ii, wd_f, wd_t, n_pe, n_pl, n_pg, n_ep, n_el, n_eg, n_lp, n_le, n_lg, n_gp, n_ge, n_gl, k_p, k_e, k_l, k_g, j_p, j_e, j_l, j_g, putD, hy]))
    simp only [List.map_cons, List.sum_cons, List.length_cons]
    rw [Nat.succ_mul]
    omega
theorem join_len (s : Str) (xs : List Str) : (Txt.join s xs).length ≤ (xs.map (·.length)).sum + xs.length * s.length := by
  have e : Txt.join s xs = Str.join s xs := StrLaws.glued_eq_join s xs
  rw [e]
  exact StrLaws.join_length_le s xs
theorem sg_len (g : Bool) : (sg g).length = 3 := by cases g <;> decide +kernel
theorem cw_len (g : Bool) : (cw g).length ≤ 7 := by cases g <;> decide +kernel
theorem inn_len (p : Tm) (s : Str) : (inn p s).length ≤ s.length + 2 := by
  cases p with
  | nd g ps =>
    show ((("(" : Str) ++ s) ++ ")").length ≤ _
    rw [app_len, app_len, show (Str.ofString "(").length = 1 by decide +kernel, show (Str.ofString ")").length = 1 by decide +kernel]
    omega
  | pl x => show s.length ≤ _; omega
  | en x => show s.length ≤ _; omega
theorem pl_len {x : Str} (h : x ∈ pls) : x.length = 2 := by
  revert x
  decide +kernel
theorem en_len {x : Str} (h : x = "bottom" ∨ x = "top") : x.length ≤ 6 := by
  rcases h with rfl | rfl <;> decide +kernel
theorem lens {t : Tm} (h : Wf t) : (txt t).length ≤ L (dep t) ∧ (wr t).length ≤ L (dep t) := by
  induction h with
  | pl hx =>
    have := pl_len hx
    refine ⟨by rw [txt, dep, L]; omega, ?_⟩
    rw [wr, dep, L, app_len, app_len, app_len, show (Str.ofString "Place").length = 5 by decide +kernel, show (Str.ofString "('").length = 2 by decide +kernel, show (Str.ofString "')").length = 2 by decide +kernel]
    omega
  | en hx =>
    have := en_len hx
    refine ⟨by rw [txt, dep, L]; omega, ?_⟩
    rw [wr, dep, L, app_len, app_len, app_len, show (Str.ofString "End").length = 3 by decide +kernel, show (Str.ofString "('").length = 2 by decide +kernel, show (Str.ofString "')").length = 2 by decide +kernel]
    omega
  | @nd g ps hp hl ih =>
    have l8 : ps.length ≤ 8 := by omega
    have m : ps.length * (L (deps ps) + 2) ≤ 8 * (L (deps ps) + 2) := Nat.mul_le_mul_right _ l8
    have m2 : ps.length * L (deps ps) ≤ 8 * L (deps ps) := Nat.mul_le_mul_right _ l8
    have s1 := sum_le (fun p => (itx p).length) (L (deps ps) + 2) ps fun p hpp => by
      have h1 := (ih p hpp).1
      have h2 := inn_len p (txt p)
      have h3 := L_mono (dep_le hpp)
      show (inn p (txt p)).length ≤ _
      omega
    have s2 := sum_le (fun p => (wr p).length) (L (deps ps)) ps fun p hpp => by
      have h1 := (ih p hpp).2
      have h3 := L_mono (dep_le hpp)
      show (wr p).length ≤ _
      omega
    refine ⟨?_, ?_⟩
    · have j := join_len (sg g) (itxs ps)
      rw [itxs_map, List.map_map, List.length_map, sg_len] at j
      rw [txt, dep, L, itxs_map]
      have e : (ps.map ((fun x => x.length) ∘ itx)).sum = (ps.map fun p => (itx p).length).sum := rfl
      omega
    · have j := join_len (Str.ofString ", ") (wrs ps)
      rw [wrs_map, List.map_map, List.length_map, show (Str.ofString ", ").length = 2 by decide +kernel] at j
      have c := cw_len g
      rw [wr, dep, L, wrs_map, app_len, app_len, app_len, show (Str.ofString "(").length = 1 by decide +kernel, show (Str.ofString ")").length = 1 by decide +kernel]
      have e : (ps.map ((fun x => x.length) ∘ wr)).sum = (ps.map fun p => (wr p).length).sum := rfl
      omega
end K13

-- P13e
set_option Elab.async false
set_option linter.all false
set_option maxRecDepth 100000
set_option maxHeartbeats 4000000
set_option autoImplicit false
namespace K13
open PySem Mn
theorem strs0_m : ∀ xs : List Str, strs0 (xs.map .str) = some xs
  | [] => rfl
  | x :: xs => by simp [evSs, evS, evE, evEs, evB, evC, evO, evP, evI, callD, argSl, argSls, bors, wb, frz, frzs, sees, R.see, lockS, unlockS, asgR, retR, setD, asgT, unlockO, backA, endF, nIf, nIfs, isAnd, truD, RD.r, binO, binD, cmpR, cmpO, isVl, cmpD, biO, biD, ixD, Mn.Loc, keyD, keyD0, meD, recv, gtD, apD, isObj, runC, evF, tyN, ↓evS_fr, ↓evS_frt, ↓evE_lc, L2.atI, L2.ixN, big, asgS_if, nl_un, nl_val, nl_own, q_pp, q_ep, q_ee, q_lp, q_gp, q_le, q_ge, q_ll, q_gl, eq_ii, wd_f, wd_t, n_pe, n_pl, n_pg, n_ep, n_el, n_eg, n_lp, n_le, n_lg, n_gp, n_ge, n_gl, k_p, k_e, k_l, k_g, j_p, j_e, j_l, j_g, putD, strs0, strs0_m xs]
theorem joinD_ok {s : Str} {xs : List Str} (h : (xs.map (·.length)).sum + xs.length * s.length ≤ 1000000) : joinD s (.lst (xs.map .str)) = some (Txt.join s xs) := by
  simp only [joinD, strs0_m, Option.bind_some, big, h, if_true]
theorem sgs_len (g : Bool) : (sg g).length = 3 := sg_len g
section
variable {g : Bool} {ps : List Tm}
theorem jt (h : Wf (.nd g ps)) (hd : deps ps ≤ 4) : joinD (sg g) (.lst (ps.map fun p => .str (itx p))) = some (txt (.nd g ps)) := by
  have l8 : ps.length ≤ 8 := by have := h.len; omega
  have hw : ∀ p ∈ ps, Wf p := by cases h; assumption
  have s1 := sum_le (fun p => (itx p).length) (L (deps ps) + 2) ps fun p hpp => by
    have h1 := (lens (hw p hpp)).1
    have h2 := inn_len p (txt p)
    have h3 := L_mono (dep_le hpp)
    show (inn p (txt p)).length ≤ _
    omega
  have m : ps.length * (L (deps ps) + 2) ≤ 8 * (L (deps ps) + 2) := Nat.mul_le_mul_right _ l8
  have l5 := L_mono (show deps ps + 1 ≤ 5 by omega)
  rw [L5, L] at l5
  have e := joinD_ok (s := sg g) (xs := ps.map itx) (by
    rw [List.map_map, List.length_map, sg_len]
    have e : (ps.map ((fun x => x.length) ∘ itx)).sum = (ps.map fun p => (itx p).length).sum := rfl
    omega)
  rw [List.map_map] at e
  rw [txt, itxs_map]
  exact e
theorem jw (h : Wf (.nd g ps)) (hd : deps ps ≤ 4) : joinD (Str.ofString ", ") (.lst (ps.map fun p => .str (wr p))) = some (Txt.join (Str.ofString ", ") (wrs ps)) ∧ (Txt.join (Str.ofString ", ") (wrs ps)).length ≤ 900000 := by
  have l8 : ps.length ≤ 8 := by have := h.len; omega
  have hw : ∀ p ∈ ps, Wf p := by cases h; assumption
  have s2 := sum_le (fun p => (wr p).length) (L (deps ps)) ps fun p hpp => by
    have h1 := (lens (hw p hpp)).2
    have h3 := L_mono (dep_le hpp)
    show (wr p).length ≤ _
    omega
  have m2 : ps.length * L (deps ps) ≤ 8 * L (deps ps) := Nat.mul_le_mul_right _ l8
  have l5 := L_mono (show deps ps + 1 ≤ 5 by omega)
  rw [L5, L] at l5
  have c2 : (Str.ofString ", ").length = 2 := by decide +kernel
  have e0 : (ps.map ((fun x => x.length) ∘ wr)).sum = (ps.map fun p => (wr p).length).sum := rfl
  refine ⟨?_, ?_⟩
  · have e := joinD_ok (s := Str.ofString ", ") (xs := ps.map wr) (by
      rw [List.map_map, List.length_map, c2]
      omega)
    rw [List.map_map] at e
    rw [wrs_map]
    exact e
  · have j := join_len (Str.ofString ", ") (wrs ps)
    rw [wrs_map, List.map_map, List.length_map, c2] at j
    rw [wrs_map]
    omega
end
theorem inner_of (n : Nat) {p : Tm} (e : rn n 15 [.val (tmD p)] = some (.ret (.val (.str (txt p))) [.val (tmD p)])) (hl : (txt p).length ≤ 900000) : rn (n+1) 14 [.val (tmD p)] = some (.ret (.val (.str (itx p))) [.val (tmD p)]) := by
  have c1 : (Str.ofString "(").length = 1 := by decide +kernel
  have c2 : (Str.ofString ")").length = 1 := by decide +kernel
  cases p with
  | pl x => simp [evSs, evS, evE, evEs, evB, evC, evO, evP, evI, callD, argSl, argSls, bors, wb, frz, frzs, sees, R.see, lockS, unlockS, asgR, retR, setD, asgT, unlockO, backA, endF, nIf, nIfs, isAnd, truD, RD.r, binO, binD, cmpR, cmpO, isVl, cmpD, biO, biD, ixD, Mn.Loc, keyD, keyD0, meD, recv, gtD, apD, isObj, runC, evF, tyN, ↓evS_fr, ↓evS_frt, ↓evE_lc, L2.atI, L2.ixN, big, asgS_if, nl_un, nl_val, nl_own, q_pp, q_ep, q_ee, q_lp, q_gp, q_le, q_ge, q_ll, q_gl, eq_ii, wd_f, wd_t, n_pe, n_pl, n_pg, n_ep, n_el, n_eg, n_lp, n_le, n_lg, n_gp, n_ge, n_gl, k_p, k_e, k_l, k_g, j_p, j_e, j_l, j_g, putD, tmD] at e; simp [evSs, evS, evE, evEs, evB, evC, evO, evP, evI, callD, argSl, argSls, bors, wb, frz, frzs, sees, R.see, lockS, unlockS, asgR, retR, setD, asgT, unlockO, backA, endF, nIf, nIfs, isAnd, truD, RD.r, binO, binD, cmpR, cmpO, isVl, cmpD, biO, biD, ixD, Mn.Loc, keyD, keyD0, meD, recv, gtD, apD, isObj, runC, evF, tyN, ↓evS_fr, ↓evS_frt, ↓evE_lc, L2.atI, L2.ixN, big, asgS_if, nl_un, nl_val, nl_own, q_pp, q_ep, q_ee, q_lp, q_gp, q_le, q_ge, q_ll, q_gl, eq_ii, wd_f, wd_t, n_pe, n_pl, n_pg, n_ep, n_el, n_eg, n_lp, n_le, n_lg, n_gp, n_ge, n_gl, k_p, k_e, k_l, k_g, j_p, j_e, j_l, j_g, putD, fn14, b33, tmD, e, itx, inn]
  | en x => simp [evSs, evS, evE, evEs, evB, evC, evO, evP, evI, callD, argSl, argSls, bors, wb, frz, frzs, sees, R.see, lockS, unlockS, asgR, retR, setD, asgT, unlockO, backA, endF, nIf, nIfs, isAnd, truD, RD.r, binO, binD, cmpR, cmpO, isVl, cmpD, biO, biD, ixD, Mn.Loc, keyD, keyD0, meD, recv, gtD, apD, isObj, runC, evF, tyN, ↓evS_fr, ↓evS_frt, ↓evE_lc, L2.atI, L2.ixN, big, asgS_if, nl_un, nl_val, nl_own, q_pp, q_ep, q_ee, q_lp, q_gp, q_le, q_ge, q_ll, q_gl, eq_ii, wd_f, wd_t, n_pe, n_pl, n_pg, n_ep, n_el, n_eg, n_lp, n_le, n_lg, n_gp, n_ge, n_gl, k_p, k_e, k_l, k_g, j_p, j_e, j_l, j_g, putD, tmD] at e; simp [evSs, evS, evE, evEs, evB, evC, evO, evP, evI, callD, argSl, argSls, bors, wb, frz, frzs, sees, R.see, lockS, unlockS, asgR, retR, setD, asgT, unlockO, backA, endF, nIf, nIfs, isAnd, truD, RD.r, binO, binD, cmpR, cmpO, isVl, cmpD, biO, biD, ixD, Mn.Loc, keyD, keyD0, meD, recv, gtD, apD, isObj, runC, evF, tyN, ↓evS_fr, ↓evS_frt, ↓evE_lc, L2.atI, L2.ixN, big, asgS_if, nl_un, nl_val, nl_own, q_pp, q_ep, q_ee, q_lp, q_gp, q_le, q_ge, q_ll, q_gl, eq_ii, wd_f, wd_t, n_pe, n_pl, n_pg, n_ep, n_el, n_eg, n_lp, n_le, n_lg, n_gp, n_ge, n_gl, k_p, k_e, k_l, k_g, j_p, j_e, j_l, j_g, putD, fn14, b33, tmD, e, itx, inn]
  | nd g ps =>
    have c3 : 1 + (txt (.nd g ps)).length ≤ 1000000 := by omega
    have c4 : 1 + (txt (.nd g ps)).length + 1 ≤ 1000000 := by omega
    cases g <;> (simp [evSs, evS, evE, evEs, evB, evC, evO, evP, evI, callD, argSl, argSls, bors, wb, frz, frzs, sees, R.see, lockS, unlockS, asgR, retR, setD, asgT, unlockO, backA, endF, nIf, nIfs, isAnd, truD, RD.r, binO, binD, cmpR, cmpO, isVl, cmpD, biO, biD, ixD, Mn.Loc, keyD, keyD0, meD, recv, gtD, apD, isObj, runC, evF, tyN, ↓evS_fr, ↓evS_frt, ↓evE_lc, L2.atI, L2.ixN, big, asgS_if, nl_un, nl_val, nl_own, q_pp, q_ep, q_ee, q_lp, q_gp, q_le, q_ge, q_ll, q_gl, eq_ii, wd_f, wd_t, n_pe, n_pl, n_pg, n_ep, n_el, n_eg, n_lp, n_le, n_lg, n_gp, n_ge, n_gl, k_p, k_e, k_l, k_g, j_p, j_e, j_l, j_g, putD, tmD] at e; simp [evSs, evS, evE, evEs, evB, evC, evO, evP, evI, callD, argSl, argSls, bors, wb, frz, frzs, sees, R.see, lockS, unlockS, asgR, retR, setD, asgT, unlockO, backA, endF, nIf, nIfs, isAnd, truD, RD.r, binO, binD, cmpR, cmpO, isVl, cmpD, biO, biD, ixD, Mn.Loc, keyD, keyD0, meD, recv, gtD, apD, isObj, runC, evF, tyN, ↓evS_fr, ↓evS_frt, ↓evE_lc, L2.atI, L2.ixN, big, asgS_if, nl_un, nl_val, nl_own, q_pp, q_ep, q_ee, q_lp, q_gp, q_le, q_ge, q_ll, q_gl, eq_ii, wd_f, wd_t, n_pe, n_pl, n_pg, n_ep, n_el, n_eg, n_lp, n_le, n_lg, n_gp, n_ge, n_gl, k_p, k_e, k_l, k_g, j_p, j_e, j_l, j_g, putD, fn14, b33, tmD, e, itx, inn, c1, c2, c3, c4, app_len])
theorem l900 {t : Tm} (h : Wf t) (hd : dep t ≤ 5) : (txt t).length ≤ 900000 ∧ (wr t).length ≤ 900000 := by
  have h1 := lens h
  have h2 := L_mono hd
  rw [L5] at h2
  omega
theorem text {t : Tm} (h : Wf t) : dep t ≤ 5 → ∀ n, 2 * dep t + 1 ≤ n → rn n 15 [.val (tmD t)] = some (.ret (.val (.str (txt t))) [.val (tmD t)]) := by
  induction h with
  | pl hx =>
    intro _ n hn
    obtain ⟨k, rfl⟩ : ∃ k, n = k + 1 := ⟨n - 1, by simp [evSs, evS, evE, evEs, evB, evC, evO, evP, evI, callD, argSl, argSls, bors, wb, frz, frzs, sees, R.see, lockS, unlockS, asgR, retR, setD, asgT, unlockO, backA, endF, nIf, nIfs, isAnd, truD, RD.r, binO, binD, cmpR, cmpO, isVl, cmpD, biO, biD, ixD, Mn.Loc, keyD, keyD0, meD, recv, gtD, apD, isObj, runC, evF, tyN, ↓evS_fr, ↓evS_frt, ↓evE_lc, L2.atI, L2.ixN, big, asgS_if, nl_un, nl_val, nl_own, q_pp, q_ep, q_ee, q_lp, q_gp, q_le, q_ge, q_ll, q_gl, eq_ii, wd_f, wd_t, n_pe, n_pl, n_pg, n_ep, n_el, n_eg, n_lp, n_le, n_lg, n_gp, n_ge, n_gl, k_p, k_e, k_l, k_g, j_p, j_e, j_l, j_g, putD, dep] at hn; omega⟩
    simp [evSs, evS, evE, evEs, evB, evC, evO, evP, evI, callD, argSl, argSls, bors, wb, frz, frzs, sees, R.see, lockS, unlockS, asgR, retR, setD, asgT, unlockO, backA, endF, nIf, nIfs, isAnd, truD, RD.r, binO, binD, cmpR, cmpO, isVl, cmpD, biO, biD, ixD, Mn.Loc, keyD, keyD0, meD, recv, gtD, apD, isObj, runC, evF, tyN, ↓evS_fr, ↓evS_frt, ↓evE_lc, L2.atI, L2.ixN, big, asgS_if, nl_un, nl_val, nl_own, q_pp, q_ep, q_ee, q_lp, q_gp, q_le, q_ge, q_ll, q_gl, eq_ii, wd_f, wd_t, n_pe, n_pl, n_pg, n_ep, n_el, n_eg, n_lp, n_le, n_lg, n_gp, n_ge, n_gl, k_p, k_e, k_l, k_g, j_p, j_e, j_l, j_g, putD, fn15, b34, tmD, txt]
  | en hx =>
    intro _ n hn
    obtain ⟨k, rfl⟩ : ∃ k, n = k + 1 := ⟨n - 1, by simp [evSs, evS, evE, evEs, evB, evC, evO, evP, evI, callD, argSl, argSls, bors, wb, frz, frzs, sees, R.see, lockS, unlockS, asgR, retR, setD, asgT, unlockO, backA, endF, nIf, nIfs, isAnd, truD, RD.r, binO, binD, cmpR, cmpO, isVl, cmpD, biO, biD, ixD, Mn.Loc, keyD, keyD0, meD, recv, gtD, apD, isObj, runC, evF, tyN, ↓evS_fr, ↓evS_frt, ↓evE_lc, L2.atI, L2.ixN, big, asgS_if, nl_un, nl_val, nl_own, q_pp, q_ep, q_ee, q_lp, q_gp, q_le, q_ge, q_ll, q_gl, eq_ii, wd_f, wd_t, n_pe, n_pl, n_pg, n_ep, n_el, n_eg, n_lp, n_le, n_lg, n_gp, n_ge, n_gl, k_p, k_e, k_l, k_g, j_p, j_e, j_l, j_g, putD, dep] at hn; omega⟩
    simp [evSs, evS, evE, evEs, evB, evC, evO, evP, evI, callD, argSl, argSls, bors, wb, frz, frzs, sees, R.see, lockS, unlockS, asgR, retR, setD, asgT, unlockO, backA, endF, nIf, nIfs, isAnd, truD, RD.r, binO, binD, cmpR, cmpO, isVl, cmpD, biO, biD, ixD, Mn.Loc, keyD, keyD0, meD, recv, gtD, apD, isObj, runC, evF, tyN, ↓evS_fr, ↓evS_frt, ↓evE_lc, L2.atI, L2.ixN, big, asgS_if, nl_un, nl_val, nl_own, q_pp, q_ep, q_ee, q_lp, q_gp, q_le, q_ge, q_ll, q_gl, eq_ii, wd_f, wd_t, n_pe, n_pl, n_pg, n_ep, n_el, n_eg, n_lp, n_le, n_lg, n_gp, n_ge, n_gl, k_p, k_e, k_l, k_g, j_p, j_e, j_l, j_g, putD, fn15, b34, tmD, txt]
  | @nd g ps hp hl ih =>
    intro h5 n hn
    simp [evSs, evS, evE, evEs, evB, evC, evO, evP, evI, callD, argSl, argSls, bors, wb, frz, frzs, sees, R.see, lockS, unlockS, asgR, retR, setD, asgT, unlockO, backA, endF, nIf, nIfs, isAnd, truD, RD.r, binO, binD, cmpR, cmpO, isVl, cmpD, biO, biD, ixD, Mn.Loc, keyD, keyD0, meD, recv, gtD, apD, isObj, runC, evF, tyN, ↓evS_fr, ↓evS_frt, ↓evE_lc, L2.atI, L2.ixN, big, asgS_if, nl_un, nl_val, nl_own, q_pp, q_ep, q_ee, q_lp, q_gp, q_le, q_ge, q_ll, q_gl, eq_ii, wd_f, wd_t, n_pe, n_pl, n_pg, n_ep, n_el, n_eg, n_lp, n_le, n_lg, n_gp, n_ge, n_gl, k_p, k_e, k_l, k_g, j_p, j_e, j_l, j_g, putD, dep] at hn h5
    obtain ⟨k, rfl⟩ : ∃ k, n = k + 3 := ⟨n - 3, by omega⟩
    have hlen : ps.length ≤ 1000000 := by omega
    have ej := jt (g := g) (ps := ps) (.nd hp hl) (by omega)
    cases g <;>
    · simp [evSs, evS, evE, evEs, evB, evC, evO, evP, evI, callD, argSl, argSls, bors, wb, frz, frzs, sees, R.see, lockS, unlockS, asgR, retR, setD, asgT, unlockO, backA, endF, nIf, nIfs, isAnd, truD, RD.r, binO, binD, cmpR, cmpO, isVl, cmpD, biO, biD, ixD, Mn.Loc, keyD, keyD0, meD, recv, gtD, apD, isObj, runC, evF, tyN, ↓evS_fr, ↓evS_frt, ↓evE_lc, L2.atI, L2.ixN, big, asgS_if, nl_un, nl_val, nl_own, q_pp, q_ep, q_ee, q_lp, q_gp, q_le, q_ge, q_ll, q_gl, eq_ii, wd_f, wd_t, n_pe, n_pl, n_pg, n_ep, n_el, n_eg, n_lp, n_le, n_lg, n_gp, n_ge, n_gl, k_p, k_e, k_l, k_g, j_p, j_e, j_l, j_g, putD, sg] at ej
      simp [evSs, evS, evE, evEs, evB, evC, evO, evP, evI, callD, argSl, argSls, bors, wb, frz, frzs, sees, R.see, lockS, unlockS, asgR, retR, setD, asgT, unlockO, backA, endF, nIf, nIfs, isAnd, truD, RD.r, binO, binD, cmpR, cmpO, isVl, cmpD, biO, biD, ixD, Mn.Loc, keyD, keyD0, meD, recv, gtD, apD, isObj, runC, evF, tyN, ↓evS_fr, ↓evS_frt, ↓evE_lc, L2.atI, L2.ixN, big, asgS_if, nl_un, nl_val, nl_own, q_pp, q_ep, q_ee, q_lp, q_gp, q_le, q_ge, q_ll, q_gl, eq_ii, wd_f, wd_t, n_pe, n_pl, n_pg, n_ep, n_el, n_eg, n_lp, n_le, n_lg, n_gp, n_ge, n_gl, k_p, k_e, k_l, k_g, j_p, j_e, j_l, j_g, putD, fn15, b34, tmD, tmDs_map]
      rw [lcT tmD (fun p => .str (itx p)) ps .un rfl (fun d => by simp [evSs, evS, evE, evEs, evB, evC, evO, evP, evI, callD, argSl, argSls, bors, wb, frz, frzs, sees, R.see, lockS, unlockS, asgR, retR, setD, asgT, unlockO, backA, endF, nIf, nIfs, isAnd, truD, RD.r, binO, binD, cmpR, cmpO, isVl, cmpD, biO, biD, ixD, Mn.Loc, keyD, keyD0, meD, recv, gtD, apD, isObj, runC, evF, tyN, ↓evS_fr, ↓evS_frt, ↓evE_lc, L2.atI, L2.ixN, big, asgS_if, nl_un, nl_val, nl_own, q_pp, q_ep, q_ee, q_lp, q_gp, q_le, q_ge, q_ll, q_gl, eq_ii, wd_f, wd_t, n_pe, n_pl, n_pg, n_ep, n_el, n_eg, n_lp, n_le, n_lg, n_gp, n_ge, n_gl, k_p, k_e, k_l, k_g, j_p, j_e, j_l, j_g, putD, lpC]) (fun t ht => by
        have h1 := dep_le ht
        simp [evSs, evS, evE, evEs, evB, evC, evO, evP, evI, callD, argSl, argSls, bors, wb, frz, frzs, sees, R.see, lockS, unlockS, asgR, retR, setD, asgT, unlockO, backA, endF, nIf, nIfs, isAnd, truD, RD.r, binO, binD, cmpR, cmpO, isVl, cmpD, biO, biD, ixD, Mn.Loc, keyD, keyD0, meD, recv, gtD, apD, isObj, runC, evF, tyN, ↓evS_fr, ↓evS_frt, ↓evE_lc, L2.atI, L2.ixN, big, asgS_if, nl_un, nl_val, nl_own, q_pp, q_ep, q_ee, q_lp, q_gp, q_le, q_ge, q_ll, q_gl, eq_ii, wd_f, wd_t, n_pe, n_pl, n_pg, n_ep, n_el, n_eg, n_lp, n_le, n_lg, n_gp, n_ge, n_gl, k_p, k_e, k_l, k_g, j_p, j_e, j_l, j_g, putD, lpE, inner_of (k+1) (ih t ht (by omega) (k+1) (by omega)) (l900 (hp t ht) (by omega)).1]) hlen]
      simp [evSs, evS, evE, evEs, evB, evC, evO, evP, evI, callD, argSl, argSls, bors, wb, frz, frzs, sees, R.see, lockS, unlockS, asgR, retR, setD, asgT, unlockO, backA, endF, nIf, nIfs, isAnd, truD, RD.r, binO, binD, cmpR, cmpO, isVl, cmpD, biO, biD, ixD, Mn.Loc, keyD, keyD0, meD, recv, gtD, apD, isObj, runC, evF, tyN, ↓evS_fr, ↓evS_frt, ↓evE_lc, L2.atI, L2.ixN, big, asgS_if, nl_un, nl_val, nl_own, q_pp, q_ep, q_ee, q_lp, q_gp, q_le, q_ge, q_ll, q_gl, eq_ii, wd_f, wd_t, n_pe, n_pl, n_pg, n_ep, n_el, n_eg, n_lp, n_le, n_lg, n_gp, n_ge, n_gl, k_p, k_e, k_l, k_g, j_p, j_e, j_l, j_g, putD, ej]
end K13

-- P13f
set_option Elab.async false
set_option linter.all false
set_option maxRecDepth 100000
set_option maxHeartbeats 4000000
set_option autoImplicit false
namespace K13
open PySem Mn
theorem c_p : (Str.ofString "(").length = 1 := by decide +kernel
theorem c_q : (Str.ofString ")").length = 1 := by decide +kernel
theorem c_a : (Str.ofString "('").length = 2 := by decide +kernel
theorem c_b : (Str.ofString "')").length = 2 := by decide +kernel
theorem c_P : (Str.ofString "Place").length = 5 := by decide +kernel
theorem c_E : (Str.ofString "End").length = 3 := by decide +kernel
theorem c_L : (Str.ofString "Lesser").length = 6 := by decide +kernel
theorem c_G : (Str.ofString "Greater").length = 7 := by decide +kernel
theorem c_Lp : (Str.ofString "Lesser(").length = 7 := by decide +kernel
theorem c_Gp : (Str.ofString "Greater(").length = 8 := by decide +kernel
theorem written {t : Tm} (h : Wf t) : dep t ≤ 5 → ∀ n, dep t + 1 ≤ n → rn n 16 [.val (tmD t)] = some (.ret (.val (.str (wr t))) [.val (tmD t)]) := by
  induction h with
  | @pl x hx =>
    intro _ n hn
    obtain ⟨k, rfl⟩ : ∃ k, n = k + 1 := ⟨n - 1, by simp [evSs, evS, evE, evEs, evB, evC, evO, evP, evI, callD, argSl, argSls, bors, wb, frz, frzs, sees, R.see, lockS, unlockS, asgR, retR, setD, asgT, unlockO, backA, endF, nIf, nIfs, isAnd, truD, RD.r, binO, binD, cmpR, cmpO, isVl, cmpD, biO, biD, ixD, Mn.Loc, keyD, keyD0, meD, recv, gtD, apD, isObj, runC, evF, tyN, ↓evS_fr, ↓evS_frt, ↓evE_lc, L2.atI, L2.ixN, big, asgS_if, nl_un, nl_val, nl_own, q_pp, q_ep, q_ee, q_lp, q_gp, q_le, q_ge, q_ll, q_gl, eq_ii, wd_f, wd_t, n_pe, n_pl, n_pg, n_ep, n_el, n_eg, n_lp, n_le, n_lg, n_gp, n_ge, n_gl, k_p, k_e, k_l, k_g, j_p, j_e, j_l, j_g, putD, strsR, catS, fmtD, c_p, c_q, c_a, c_b, c_P, c_E, c_L, c_G, c_Lp, c_Gp, app_len, dep] at hn; omega⟩
    have := pl_len hx
    simp [evSs, evS, evE, evEs, evB, evC, evO, evP, evI, callD, argSl, argSls, bors, wb, frz, frzs, sees, R.see, lockS, unlockS, asgR, retR, setD, asgT, unlockO, backA, endF, nIf, nIfs, isAnd, truD, RD.r, binO, binD, cmpR, cmpO, isVl, cmpD, biO, biD, ixD, Mn.Loc, keyD, keyD0, meD, recv, gtD, apD, isObj, runC, evF, tyN, ↓evS_fr, ↓evS_frt, ↓evE_lc, L2.atI, L2.ixN, big, asgS_if, nl_un, nl_val, nl_own, q_pp, q_ep, q_ee, q_lp, q_gp, q_le, q_ge, q_ll, q_gl, eq_ii, wd_f, wd_t, n_pe, n_pl, n_pg, n_ep, n_el, n_eg, n_lp, n_le, n_lg, n_gp, n_ge, n_gl, k_p, k_e, k_l, k_g, j_p, j_e, j_l, j_g, putD, strsR, catS, fmtD, c_p, c_q, c_a, c_b, c_P, c_E, c_L, c_G, c_Lp, c_Gp, app_len, fn16, b35, tmD, wr, this]
  | @en x hx =>
    intro _ n hn
    obtain ⟨k, rfl⟩ : ∃ k, n = k + 1 := ⟨n - 1, by simp [evSs, evS, evE, evEs, evB, evC, evO, evP, evI, callD, argSl, argSls, bors, wb, frz, frzs, sees, R.see, lockS, unlockS, asgR, retR, setD, asgT, unlockO, backA, endF, nIf, nIfs, isAnd, truD, RD.r, binO, binD, cmpR, cmpO, isVl, cmpD, biO, biD, ixD, Mn.Loc, keyD, keyD0, meD, recv, gtD, apD, isObj, runC, evF, tyN, ↓evS_fr, ↓evS_frt, ↓evE_lc, L2.atI, L2.ixN, big, asgS_if, nl_un, nl_val, nl_own, q_pp, q_ep, q_ee, q_lp, q_gp, q_le, q_ge, q_ll, q_gl, eq_ii, wd_f, wd_t, n_pe, n_pl, n_pg, n_ep, n_el, n_eg, n_lp, n_le, n_lg, n_gp, n_ge, n_gl, k_p, k_e, k_l, k_g, j_p, j_e, j_l, j_g, putD, strsR, catS, fmtD, c_p, c_q, c_a, c_b, c_P, c_E, c_L, c_G, c_Lp, c_Gp, app_len, dep] at hn; omega⟩
    have := en_len hx
    have c1 : 3 + 2 + x.length ≤ 1000000 := by omega
    have c2 : 3 + 2 + x.length + 2 ≤ 1000000 := by omega
    simp [evSs, evS, evE, evEs, evB, evC, evO, evP, evI, callD, argSl, argSls, bors, wb, frz, frzs, sees, R.see, lockS, unlockS, asgR, retR, setD, asgT, unlockO, backA, endF, nIf, nIfs, isAnd, truD, RD.r, binO, binD, cmpR, cmpO, isVl, cmpD, biO, biD, ixD, Mn.Loc, keyD, keyD0, meD, recv, gtD, apD, isObj, runC, evF, tyN, ↓evS_fr, ↓evS_frt, ↓evE_lc, L2.atI, L2.ixN, big, asgS_if, nl_un, nl_val, nl_own, q_pp, q_ep, q_ee, q_lp, q_gp, q_le, q_ge, q_ll, q_gl, eq_ii, wd_f, wd_t, n_pe, n_pl, n_pg, n_ep, n_el, n_eg, n_lp, n_le, n_lg, n_gp, n_ge, n_gl, k_p, k_e, k_l, k_g, j_p, j_e, j_l, j_g, putD, strsR, catS, fmtD, c_p, c_q, c_a, c_b, c_P, c_E, c_L, c_G, c_Lp, c_Gp, app_len, fn16, b35, tmD, wr, c1, c2]
  | @nd g ps hp hl ih =>
    intro h5 n hn
    simp [evSs, evS, evE, evEs, evB, evC, evO, evP, evI, callD, argSl, argSls, bors, wb, frz, frzs, sees, R.see, lockS, unlockS, asgR, retR, setD, asgT, unlockO, backA, endF, nIf, nIfs, isAnd, truD, RD.r, binO, binD, cmpR, cmpO, isVl, cmpD, biO, biD, ixD, Mn.Loc, keyD, keyD0, meD, recv, gtD, apD, isObj, runC, evF, tyN, ↓evS_fr, ↓evS_frt, ↓evE_lc, L2.atI, L2.ixN, big, asgS_if, nl_un, nl_val, nl_own, q_pp, q_ep, q_ee, q_lp, q_gp, q_le, q_ge, q_ll, q_gl, eq_ii, wd_f, wd_t, n_pe, n_pl, n_pg, n_ep, n_el, n_eg, n_lp, n_le, n_lg, n_gp, n_ge, n_gl, k_p, k_e, k_l, k_g, j_p, j_e, j_l, j_g, putD, strsR, catS, fmtD, c_p, c_q, c_a, c_b, c_P, c_E, c_L, c_G, c_Lp, c_Gp, app_len, dep] at hn h5
    obtain ⟨k, rfl⟩ : ∃ k, n = k + 1 := ⟨n - 1, by omega⟩
    have hlen : ps.length ≤ 1000000 := by omega
    obtain ⟨ej, el⟩ := jw (g := g) (ps := ps) (.nd hp hl) (by omega)
    generalize ew : (Txt.join (Str.ofString ", ") (wrs ps)) = W at ej el
    have b1 : 6 + 1 + W.length ≤ 1000000 := by omega
    have b2 : 6 + 1 + W.length + 1 ≤ 1000000 := by omega
    have b3 : 7 + 1 + W.length ≤ 1000000 := by omega
    have b4 : 7 + 1 + W.length + 1 ≤ 1000000 := by omega
    cases g <;>
    · simp [evSs, evS, evE, evEs, evB, evC, evO, evP, evI, callD, argSl, argSls, bors, wb, frz, frzs, sees, R.see, lockS, unlockS, asgR, retR, setD, asgT, unlockO, backA, endF, nIf, nIfs, isAnd, truD, RD.r, binO, binD, cmpR, cmpO, isVl, cmpD, biO, biD, ixD, Mn.Loc, keyD, keyD0, meD, recv, gtD, apD, isObj, runC, evF, tyN, ↓evS_fr, ↓evS_frt, ↓evE_lc, L2.atI, L2.ixN, big, asgS_if, nl_un, nl_val, nl_own, q_pp, q_ep, q_ee, q_lp, q_gp, q_le, q_ge, q_ll, q_gl, eq_ii, wd_f, wd_t, n_pe, n_pl, n_pg, n_ep, n_el, n_eg, n_lp, n_le, n_lg, n_gp, n_ge, n_gl, k_p, k_e, k_l, k_g, j_p, j_e, j_l, j_g, putD, strsR, catS, fmtD, c_p, c_q, c_a, c_b, c_P, c_E, c_L, c_G, c_Lp, c_Gp, app_len, fn16, b35, tmD, tmDs_map]
      rw [lcT tmD (fun p => .str (wr p)) ps .un rfl (fun d => by simp [evSs, evS, evE, evEs, evB, evC, evO, evP, evI, callD, argSl, argSls, bors, wb, frz, frzs, sees, R.see, lockS, unlockS, asgR, retR, setD, asgT, unlockO, backA, endF, nIf, nIfs, isAnd, truD, RD.r, binO, binD, cmpR, cmpO, isVl, cmpD, biO, biD, ixD, Mn.Loc, keyD, keyD0, meD, recv, gtD, apD, isObj, runC, evF, tyN, ↓evS_fr, ↓evS_frt, ↓evE_lc, L2.atI, L2.ixN, big, asgS_if, nl_un, nl_val, nl_own, q_pp, q_ep, q_ee, q_lp, q_gp, q_le, q_ge, q_ll, q_gl, eq_ii, wd_f, wd_t, n_pe, n_pl, n_pg, n_ep, n_el, n_eg, n_lp, n_le, n_lg, n_gp, n_ge, n_gl, k_p, k_e, k_l, k_g, j_p, j_e, j_l, j_g, putD, strsR, catS, fmtD, c_p, c_q, c_a, c_b, c_P, c_E, c_L, c_G, c_Lp, c_Gp, app_len, lpC]) (fun t ht => by
        have h1 := dep_le ht
        simp [evSs, evS, evE, evEs, evB, evC, evO, evP, evI, callD, argSl, argSls, bors, wb, frz, frzs, sees, R.see, lockS, unlockS, asgR, retR, setD, asgT, unlockO, backA, endF, nIf, nIfs, isAnd, truD, RD.r, binO, binD, cmpR, cmpO, isVl, cmpD, biO, biD, ixD, Mn.Loc, keyD, keyD0, meD, recv, gtD, apD, isObj, runC, evF, tyN, ↓evS_fr, ↓evS_frt, ↓evE_lc, L2.atI, L2.ixN, big, asgS_if, nl_un, nl_val, nl_own, q_pp, q_ep, q_ee, q_lp, q_gp, q_le, q_ge, q_ll, q_gl, eq_ii, wd_f, wd_t, n_pe, n_pl, n_pg, n_ep, n_el, n_eg, n_lp, n_le, n_lg, n_gp, n_ge, n_gl, k_p, k_e, k_l, k_g, j_p, j_e, j_l, j_g, putD, strsR, catS, fmtD, c_p, c_q, c_a, c_b, c_P, c_E, c_L, c_G, c_Lp, c_Gp, app_len, lpE, ih t ht (by omega) k (by omega)]) hlen]
      simp [evSs, evS, evE, evEs, evB, evC, evO, evP, evI, callD, argSl, argSls, bors, wb, frz, frzs, sees, R.see, lockS, unlockS, asgR, retR, setD, asgT, unlockO, backA, endF, nIf, nIfs, isAnd, truD, RD.r, binO, binD, cmpR, cmpO, isVl, cmpD, biO, biD, ixD, Mn.Loc, keyD, keyD0, meD, recv, gtD, apD, isObj, runC, evF, tyN, ↓evS_fr, ↓evS_frt, ↓evE_lc, L2.atI, L2.ixN, big, asgS_if, nl_un, nl_val, nl_own, q_pp, q_ep, q_ee, q_lp, q_gp, q_le, q_ge, q_ll, q_gl, eq_ii, wd_f, wd_t, n_pe, n_pl, n_pg, n_ep, n_el, n_eg, n_lp, n_le, n_lg, n_gp, n_ge, n_gl, k_p, k_e, k_l, k_g, j_p, j_e, j_l, j_g, putD, strsR, catS, fmtD, c_p, c_q, c_a, c_b, c_P, c_E, c_L, c_G, c_Lp, c_Gp, app_len, ej, wr, cw, ew, b1, b2, b3, b4]
theorem obj_text {t : Tm} (h : Wf t) : dep t ≤ 5 → ∀ n, dep t + 1 ≤ n → rn n 5 [.val (obD t)] = some (.ret (.val (.str (txt t))) [.val (obD t)]) := by
  induction h with
  | @pl x hx =>
    intro _ n hn
    obtain ⟨k, rfl⟩ : ∃ k, n = k + 1 := ⟨n - 1, by simp [evSs, evS, evE, evEs, evB, evC, evO, evP, evI, callD, argSl, argSls, bors, wb, frz, frzs, sees, R.see, lockS, unlockS, asgR, retR, setD, asgT, unlockO, backA, endF, nIf, nIfs, isAnd, truD, RD.r, binO, binD, cmpR, cmpO, isVl, cmpD, biO, biD, ixD, Mn.Loc, keyD, keyD0, meD, recv, gtD, apD, isObj, runC, evF, tyN, ↓evS_fr, ↓evS_frt, ↓evE_lc, L2.atI, L2.ixN, big, asgS_if, nl_un, nl_val, nl_own, q_pp, q_ep, q_ee, q_lp, q_gp, q_le, q_ge, q_ll, q_gl, eq_ii, wd_f, wd_t, n_pe, n_pl, n_pg, n_ep, n_el, n_eg, n_lp, n_le, n_lg, n_gp, n_ge, n_gl, k_p, k_e, k_l, k_g, j_p, j_e, j_l, j_g, putD, strsR, catS, fmtD, c_p, c_q, c_a, c_b, c_P, c_E, c_L, c_G, c_Lp, c_Gp, app_len, dep] at hn; omega⟩
    simp [evSs, evS, evE, evEs, evB, evC, evO, evP, evI, callD, argSl, argSls, bors, wb, frz, frzs, sees, R.see, lockS, unlockS, asgR, retR, setD, asgT, unlockO, backA, endF, nIf, nIfs, isAnd, truD, RD.r, binO, binD, cmpR, cmpO, isVl, cmpD, biO, biD, ixD, Mn.Loc, keyD, keyD0, meD, recv, gtD, apD, isObj, runC, evF, tyN, ↓evS_fr, ↓evS_frt, ↓evE_lc, L2.atI, L2.ixN, big, asgS_if, nl_un, nl_val, nl_own, q_pp, q_ep, q_ee, q_lp, q_gp, q_le, q_ge, q_ll, q_gl, eq_ii, wd_f, wd_t, n_pe, n_pl, n_pg, n_ep, n_el, n_eg, n_lp, n_le, n_lg, n_gp, n_ge, n_gl, k_p, k_e, k_l, k_g, j_p, j_e, j_l, j_g, putD, strsR, catS, fmtD, c_p, c_q, c_a, c_b, c_P, c_E, c_L, c_G, c_Lp, c_Gp, app_len, fn5, b18, isc_t, cN, i1p, at_name, txt]
  | @en x hx =>
    intro _ n hn
    obtain ⟨k, rfl⟩ : ∃ k, n = k + 1 := ⟨n - 1, by simp [evSs, evS, evE, evEs, evB, evC, evO, evP, evI, callD, argSl, argSls, bors, wb, frz, frzs, sees, R.see, lockS, unlockS, asgR, retR, setD, asgT, unlockO, backA, endF, nIf, nIfs, isAnd, truD, RD.r, binO, binD, cmpR, cmpO, isVl, cmpD, biO, biD, ixD, Mn.Loc, keyD, keyD0, meD, recv, gtD, apD, isObj, runC, evF, tyN, ↓evS_fr, ↓evS_frt, ↓evE_lc, L2.atI, L2.ixN, big, asgS_if, nl_un, nl_val, nl_own, q_pp, q_ep, q_ee, q_lp, q_gp, q_le, q_ge, q_ll, q_gl, eq_ii, wd_f, wd_t, n_pe, n_pl, n_pg, n_ep, n_el, n_eg, n_lp, n_le, n_lg, n_gp, n_ge, n_gl, k_p, k_e, k_l, k_g, j_p, j_e, j_l, j_g, putD, strsR, catS, fmtD, c_p, c_q, c_a, c_b, c_P, c_E, c_L, c_G, c_Lp, c_Gp, app_len, dep] at hn; omega⟩
    simp [evSs, evS, evE, evEs, evB, evC, evO, evP, evI, callD, argSl, argSls, bors, wb, frz, frzs, sees, R.see, lockS, unlockS, asgR, retR, setD, asgT, unlockO, backA, endF, nIf, nIfs, isAnd, truD, RD.r, binO, binD, cmpR, cmpO, isVl, cmpD, biO, biD, ixD, Mn.Loc, keyD, keyD0, meD, recv, gtD, apD, isObj, runC, evF, tyN, ↓evS_fr, ↓evS_frt, ↓evE_lc, L2.atI, L2.ixN, big, asgS_if, nl_un, nl_val, nl_own, q_pp, q_ep, q_ee, q_lp, q_gp, q_le, q_ge, q_ll, q_gl, eq_ii, wd_f, wd_t, n_pe, n_pl, n_pg, n_ep, n_el, n_eg, n_lp, n_le, n_lg, n_gp, n_ge, n_gl, k_p, k_e, k_l, k_g, j_p, j_e, j_l, j_g, putD, strsR, catS, fmtD, c_p, c_q, c_a, c_b, c_P, c_E, c_L, c_G, c_Lp, c_Gp, app_len, fn5, b18, isc_t, cN, i1e, i2e, at_end, txt]
  | @nd g ps hp hl ih =>
    intro h5 n hn
    simp [evSs, evS, evE, evEs, evB, evC, evO, evP, evI, callD, argSl, argSls, bors, wb, frz, frzs, sees, R.see, lockS, unlockS, asgR, retR, setD, asgT, unlockO, backA, endF, nIf, nIfs, isAnd, truD, RD.r, binO, binD, cmpR, cmpO, isVl, cmpD, biO, biD, ixD, Mn.Loc, keyD, keyD0, meD, recv, gtD, apD, isObj, runC, evF, tyN, ↓evS_fr, ↓evS_frt, ↓evE_lc, L2.atI, L2.ixN, big, asgS_if, nl_un, nl_val, nl_own, q_pp, q_ep, q_ee, q_lp, q_gp, q_le, q_ge, q_ll, q_gl, eq_ii, wd_f, wd_t, n_pe, n_pl, n_pg, n_ep, n_el, n_eg, n_lp, n_le, n_lg, n_gp, n_ge, n_gl, k_p, k_e, k_l, k_g, j_p, j_e, j_l, j_g, putD, strsR, catS, fmtD, c_p, c_q, c_a, c_b, c_P, c_E, c_L, c_G, c_Lp, c_Gp, app_len, dep] at hn h5
    obtain ⟨k, rfl⟩ : ∃ k, n = k + 1 := ⟨n - 1, by omega⟩
    have hlen : ps.length ≤ 1000000 := by omega
    have ej := jt (g := g) (ps := ps) (.nd hp hl) (by omega)
    cases g <;>
    · simp [evSs, evS, evE, evEs, evB, evC, evO, evP, evI, callD, argSl, argSls, bors, wb, frz, frzs, sees, R.see, lockS, unlockS, asgR, retR, setD, asgT, unlockO, backA, endF, nIf, nIfs, isAnd, truD, RD.r, binO, binD, cmpR, cmpO, isVl, cmpD, biO, biD, ixD, Mn.Loc, keyD, keyD0, meD, recv, gtD, apD, isObj, runC, evF, tyN, ↓evS_fr, ↓evS_frt, ↓evE_lc, L2.atI, L2.ixN, big, asgS_if, nl_un, nl_val, nl_own, q_pp, q_ep, q_ee, q_lp, q_gp, q_le, q_ge, q_ll, q_gl, eq_ii, wd_f, wd_t, n_pe, n_pl, n_pg, n_ep, n_el, n_eg, n_lp, n_le, n_lg, n_gp, n_ge, n_gl, k_p, k_e, k_l, k_g, j_p, j_e, j_l, j_g, putD, strsR, catS, fmtD, c_p, c_q, c_a, c_b, c_P, c_E, c_L, c_G, c_Lp, c_Gp, app_len, sg] at ej
      simp [evSs, evS, evE, evEs, evB, evC, evO, evP, evI, callD, argSl, argSls, bors, wb, frz, frzs, sees, R.see, lockS, unlockS, asgR, retR, setD, asgT, unlockO, backA, endF, nIf, nIfs, isAnd, truD, RD.r, binO, binD, cmpR, cmpO, isVl, cmpD, biO, biD, ixD, Mn.Loc, keyD, keyD0, meD, recv, gtD, apD, isObj, runC, evF, tyN, ↓evS_fr, ↓evS_frt, ↓evE_lc, L2.atI, L2.ixN, big, asgS_if, nl_un, nl_val, nl_own, q_pp, q_ep, q_ee, q_lp, q_gp, q_le, q_ge, q_ll, q_gl, eq_ii, wd_f, wd_t, n_pe, n_pl, n_pg, n_ep, n_el, n_eg, n_lp, n_le, n_lg, n_gp, n_ge, n_gl, k_p, k_e, k_l, k_g, j_p, j_e, j_l, j_g, putD, strsR, catS, fmtD, c_p, c_q, c_a, c_b, c_P, c_E, c_L, c_G, c_Lp, c_Gp, app_len, fn5, b18, isc_t, cN, i1l, i1g, i2l, i2g, i3l, i3g, at_parts]
      rw [lcT obD (fun p => .str (itx p)) ps .un rfl (fun d => by simp [evSs, evS, evE, evEs, evB, evC, evO, evP, evI, callD, argSl, argSls, bors, wb, frz, frzs, sees, R.see, lockS, unlockS, asgR, retR, setD, asgT, unlockO, backA, endF, nIf, nIfs, isAnd, truD, RD.r, binO, binD, cmpR, cmpO, isVl, cmpD, biO, biD, ixD, Mn.Loc, keyD, keyD0, meD, recv, gtD, apD, isObj, runC, evF, tyN, ↓evS_fr, ↓evS_frt, ↓evE_lc, L2.atI, L2.ixN, big, asgS_if, nl_un, nl_val, nl_own, q_pp, q_ep, q_ee, q_lp, q_gp, q_le, q_ge, q_ll, q_gl, eq_ii, wd_f, wd_t, n_pe, n_pl, n_pg, n_ep, n_el, n_eg, n_lp, n_le, n_lg, n_gp, n_ge, n_gl, k_p, k_e, k_l, k_g, j_p, j_e, j_l, j_g, putD, strsR, catS, fmtD, c_p, c_q, c_a, c_b, c_P, c_E, c_L, c_G, c_Lp, c_Gp, app_len, lpC]) (fun t ht => by
        have h1 := dep_le ht
        have h2 := ih t ht (by omega) k (by omega)
        have h3 := (l900 (hp t ht) (by omega)).1
        have h4 : (txt t).length ≤ 1000000 := by omega
        cases t with
        | pl x => simp [evSs, evS, evE, evEs, evB, evC, evO, evP, evI, callD, argSl, argSls, bors, wb, frz, frzs, sees, R.see, lockS, unlockS, asgR, retR, setD, asgT, unlockO, backA, endF, nIf, nIfs, isAnd, truD, RD.r, binO, binD, cmpR, cmpO, isVl, cmpD, biO, biD, ixD, Mn.Loc, keyD, keyD0, meD, recv, gtD, apD, isObj, runC, evF, tyN, ↓evS_fr, ↓evS_frt, ↓evE_lc, L2.atI, L2.ixN, big, asgS_if, nl_un, nl_val, nl_own, q_pp, q_ep, q_ee, q_lp, q_gp, q_le, q_ge, q_ll, q_gl, eq_ii, wd_f, wd_t, n_pe, n_pl, n_pg, n_ep, n_el, n_eg, n_lp, n_le, n_lg, n_gp, n_ge, n_gl, k_p, k_e, k_l, k_g, j_p, j_e, j_l, j_g, putD, strsR, catS, fmtD, c_p, c_q, c_a, c_b, c_P, c_E, c_L, c_G, c_Lp, c_Gp, app_len, lpE, at_depth, dep, h2, itx, inn]
        | en x => simp [evSs, evS, evE, evEs, evB, evC, evO, evP, evI, callD, argSl, argSls, bors, wb, frz, frzs, sees, R.see, lockS, unlockS, asgR, retR, setD, asgT, unlockO, backA, endF, nIf, nIfs, isAnd, truD, RD.r, binO, binD, cmpR, cmpO, isVl, cmpD, biO, biD, ixD, Mn.Loc, keyD, keyD0, meD, recv, gtD, apD, isObj, runC, evF, tyN, ↓evS_fr, ↓evS_frt, ↓evE_lc, L2.atI, L2.ixN, big, asgS_if, nl_un, nl_val, nl_own, q_pp, q_ep, q_ee, q_lp, q_gp, q_le, q_ge, q_ll, q_gl, eq_ii, wd_f, wd_t, n_pe, n_pl, n_pg, n_ep, n_el, n_eg, n_lp, n_le, n_lg, n_gp, n_ge, n_gl, k_p, k_e, k_l, k_g, j_p, j_e, j_l, j_g, putD, strsR, catS, fmtD, c_p, c_q, c_a, c_b, c_P, c_E, c_L, c_G, c_Lp, c_Gp, app_len, lpE, at_depth, dep, h2, itx, inn]
        | nd g' ps' =>
          have h5 : 1 + ((txt (.nd g' ps')).length + (1 + Str.empty.length)) ≤ 1000000 := by
            have : Str.empty.length = 0 := rfl
            omega
          have h5' : 1 + ((txt (.nd g' ps')).length + 1) ≤ 1000000 := by omega
          have h6 : (0 : Int) < (deps ps' : Int) + 1 := by omega
          simp [evSs, evS, evE, evEs, evB, evC, evO, evP, evI, callD, argSl, argSls, bors, wb, frz, frzs, sees, R.see, lockS, unlockS, asgR, retR, setD, asgT, unlockO, backA, endF, nIf, nIfs, isAnd, truD, RD.r, binO, binD, cmpR, cmpO, isVl, cmpD, biO, biD, ixD, Mn.Loc, keyD, keyD0, meD, recv, gtD, apD, isObj, runC, evF, tyN, ↓evS_fr, ↓evS_frt, ↓evE_lc, L2.atI, L2.ixN, big, asgS_if, nl_un, nl_val, nl_own, q_pp, q_ep, q_ee, q_lp, q_gp, q_le, q_ge, q_ll, q_gl, eq_ii, wd_f, wd_t, n_pe, n_pl, n_pg, n_ep, n_el, n_eg, n_lp, n_le, n_lg, n_gp, n_ge, n_gl, k_p, k_e, k_l, k_g, j_p, j_e, j_l, j_g, putD, strsR, catS, fmtD, c_p, c_q, c_a, c_b, c_P, c_E, c_L, c_G, c_Lp, c_Gp, app_len, lpE, at_depth, dep, h2, itx, inn, h4, h5, h5', h6, app_assoc, app_emp]) hlen]
      simp [evSs, evS, evE, evEs, evB, evC, evO, evP, evI, callD, argSl, argSls, bors, wb, frz, frzs, sees, R.see, lockS, unlockS, asgR, retR, setD, asgT, unlockO, backA, endF, nIf, nIfs, isAnd, truD, RD.r, binO, binD, cmpR, cmpO, isVl, cmpD, biO, biD, ixD, Mn.Loc, keyD, keyD0, meD, recv, gtD, apD, isObj, runC, evF, tyN, ↓evS_fr, ↓evS_frt, ↓evE_lc, L2.atI, L2.ixN, big, asgS_if, nl_un, nl_val, nl_own, q_pp, q_ep, q_ee, q_lp, q_gp, q_le, q_ge, q_ll, q_gl, eq_ii, wd_f, wd_t, n_pe, n_pl, n_pg, n_ep, n_el, n_eg, n_lp, n_le, n_lg, n_gp, n_ge, n_gl, k_p, k_e, k_l, k_g, j_p, j_e, j_l, j_g, putD, strsR, catS, fmtD, c_p, c_q, c_a, c_b, c_P, c_E, c_L, c_G, c_Lp, c_Gp, app_len, ej, isc_t, cN, i3l, i3g]
theorem r_pl {x : Str} (h : x ∈ pls) : Str.ofString "Place(" ++ (reprText x ++ (Str.ofString ")" ++ Str.empty)) = wr (.pl x) ∧ (reprText x).length ≤ 10 ∧ (Str.ofString "Place(" ++ (reprText x ++ (Str.ofString ")" ++ Str.empty))).length ≤ 1000000 := by
  revert x
  simp only [wr]
  decide +kernel
theorem r_en {x : Str} (h : x = "bottom" ∨ x = "top") : Str.ofString "End(" ++ (reprText x ++ (Str.ofString ")" ++ Str.empty)) = wr (.en x) ∧ (reprText x).length ≤ 10 ∧ (Str.ofString "End(" ++ (reprText x ++ (Str.ofString ")" ++ Str.empty))).length ≤ 1000000 := by
  rcases h with rfl | rfl <;> (simp only [wr]; decide +kernel)
end K13

-- P13g
set_option Elab.async false
set_option linter.all false
set_option maxRecDepth 100000
set_option maxHeartbeats 4000000
set_option autoImplicit false
namespace K13
open PySem Mn
theorem LP : Str.ofString "Lesser(" = Str.ofString "Lesser" ++ Str.ofString "(" := by decide +kernel
theorem GP : Str.ofString "Greater(" = Str.ofString "Greater" ++ Str.ofString "(" := by decide +kernel
theorem emp0 : Str.empty.length = 0 := rfl
theorem obj_repr {t : Tm} (h : Wf t) : dep t ≤ 5 → ∀ n, dep t + 1 ≤ n → rn n 6 [.val (obD t)] = some (.ret (.val (.str (wr t))) [.val (obD t)]) := by
  induction h with
  | @pl x hx =>
    intro _ n hn
    obtain ⟨k, rfl⟩ : ∃ k, n = k + 1 := ⟨n - 1, by simp [evSs, evS, evE, evEs, evB, evC, evO, evP, evI, callD, argSl, argSls, bors, wb, frz, frzs, sees, R.see, lockS, unlockS, asgR, retR, setD, asgT, unlockO, backA, endF, nIf, nIfs, isAnd, truD, RD.r, binO, binD, cmpR, cmpO, isVl, cmpD, biO, biD, ixD, Mn.Loc, keyD, keyD0, meD, recv, gtD, apD, isObj, runC, evF, tyN, ↓evS_fr, ↓evS_frt, ↓evE_lc, L2.atI, L2.ixN, big, asgS_if, nl_un, nl_val, nl_own, q_pp, q_ep, q_ee, q_lp, q_gp, q_le, q_ge, q_ll, q_gl, eq_ii, wd_f, wd_t, n_pe, n_pl, n_pg, n_ep, n_el, n_eg, n_lp, n_le, n_lg, n_gp, n_ge, n_gl, k_p, k_e, k_l, k_g, j_p, j_e, j_l, j_g, putD, strsR, catS, fmtD, c_p, c_q, c_a, c_b, c_P, c_E, c_L, c_G, c_Lp, c_Gp, app_len, dep] at hn; omega⟩
    obtain ⟨e1, e2, e3⟩ := r_pl hx
    rw [e1] at e3
    have e2' : (reprText x).length ≤ 1000000 := by omega
    simp [evSs, evS, evE, evEs, evB, evC, evO, evP, evI, callD, argSl, argSls, bors, wb, frz, frzs, sees, R.see, lockS, unlockS, asgR, retR, setD, asgT, unlockO, backA, endF, nIf, nIfs, isAnd, truD, RD.r, binO, binD, cmpR, cmpO, isVl, cmpD, biO, biD, ixD, Mn.Loc, keyD, keyD0, meD, recv, gtD, apD, isObj, runC, evF, tyN, ↓evS_fr, ↓evS_frt, ↓evE_lc, L2.atI, L2.ixN, big, asgS_if, nl_un, nl_val, nl_own, q_pp, q_ep, q_ee, q_lp, q_gp, q_le, q_ge, q_ll, q_gl, eq_ii, wd_f, wd_t, n_pe, n_pl, n_pg, n_ep, n_el, n_eg, n_lp, n_le, n_lg, n_gp, n_ge, n_gl, k_p, k_e, k_l, k_g, j_p, j_e, j_l, j_g, putD, strsR, catS, fmtD, c_p, c_q, c_a, c_b, c_P, c_E, c_L, c_G, c_Lp, c_Gp, app_len, -app_len, fn6, b19, isc_t, cN, i1p, at_name, e2', e3, e1]
  | @en x hx =>
    intro _ n hn
    obtain ⟨k, rfl⟩ : ∃ k, n = k + 1 := ⟨n - 1, by simp [evSs, evS, evE, evEs, evB, evC, evO, evP, evI, callD, argSl, argSls, bors, wb, frz, frzs, sees, R.see, lockS, unlockS, asgR, retR, setD, asgT, unlockO, backA, endF, nIf, nIfs, isAnd, truD, RD.r, binO, binD, cmpR, cmpO, isVl, cmpD, biO, biD, ixD, Mn.Loc, keyD, keyD0, meD, recv, gtD, apD, isObj, runC, evF, tyN, ↓evS_fr, ↓evS_frt, ↓evE_lc, L2.atI, L2.ixN, big, asgS_if, nl_un, nl_val, nl_own, q_pp, q_ep, q_ee, q_lp, q_gp, q_le, q_ge, q_ll, q_gl, eq_ii, wd_f, wd_t, n_pe, n_pl, n_pg, n_ep, n_el, n_eg, n_lp, n_le, n_lg, n_gp, n_ge, n_gl, k_p, k_e, k_l, k_g, j_p, j_e, j_l, j_g, putD, strsR, catS, fmtD, c_p, c_q, c_a, c_b, c_P, c_E, c_L, c_G, c_Lp, c_Gp, app_len, dep] at hn; omega⟩
    obtain ⟨e1, e2, e3⟩ := r_en hx
    rw [e1] at e3
    have e2' : (reprText x).length ≤ 1000000 := by omega
    simp [evSs, evS, evE, evEs, evB, evC, evO, evP, evI, callD, argSl, argSls, bors, wb, frz, frzs, sees, R.see, lockS, unlockS, asgR, retR, setD, asgT, unlockO, backA, endF, nIf, nIfs, isAnd, truD, RD.r, binO, binD, cmpR, cmpO, isVl, cmpD, biO, biD, ixD, Mn.Loc, keyD, keyD0, meD, recv, gtD, apD, isObj, runC, evF, tyN, ↓evS_fr, ↓evS_frt, ↓evE_lc, L2.atI, L2.ixN, big, asgS_if, nl_un, nl_val, nl_own, q_pp, q_ep, q_ee, q_lp, q_gp, q_le, q_ge, q_ll, q_gl, eq_ii, wd_f, wd_t, n_pe, n_pl, n_pg, n_ep, n_el, n_eg, n_lp, n_le, n_lg, n_gp, n_ge, n_gl, k_p, k_e, k_l, k_g, j_p, j_e, j_l, j_g, putD, strsR, catS, fmtD, c_p, c_q, c_a, c_b, c_P, c_E, c_L, c_G, c_Lp, c_Gp, app_len, -app_len, fn6, b19, isc_t, cN, i1e, i2e, at_end, e2', e3, e1]
  | @nd g ps hp hl ih =>
    intro h5 n hn
    simp [evSs, evS, evE, evEs, evB, evC, evO, evP, evI, callD, argSl, argSls, bors, wb, frz, frzs, sees, R.see, lockS, unlockS, asgR, retR, setD, asgT, unlockO, backA, endF, nIf, nIfs, isAnd, truD, RD.r, binO, binD, cmpR, cmpO, isVl, cmpD, biO, biD, ixD, Mn.Loc, keyD, keyD0, meD, recv, gtD, apD, isObj, runC, evF, tyN, ↓evS_fr, ↓evS_frt, ↓evE_lc, L2.atI, L2.ixN, big, asgS_if, nl_un, nl_val, nl_own, q_pp, q_ep, q_ee, q_lp, q_gp, q_le, q_ge, q_ll, q_gl, eq_ii, wd_f, wd_t, n_pe, n_pl, n_pg, n_ep, n_el, n_eg, n_lp, n_le, n_lg, n_gp, n_ge, n_gl, k_p, k_e, k_l, k_g, j_p, j_e, j_l, j_g, putD, strsR, catS, fmtD, c_p, c_q, c_a, c_b, c_P, c_E, c_L, c_G, c_Lp, c_Gp, app_len, dep] at hn h5
    obtain ⟨k, rfl⟩ : ∃ k, n = k + 1 := ⟨n - 1, by omega⟩
    have hlen : ps.length ≤ 1000000 := by omega
    obtain ⟨ej, el⟩ := jw (g := g) (ps := ps) (.nd hp hl) (by omega)
    generalize ew : (Txt.join (Str.ofString ", ") (wrs ps)) = W at ej el
    have b0 : W.length ≤ 1000000 := by omega
    have b1 : 7 + (W.length + 1) ≤ 1000000 := by omega
    have b2 : 8 + (W.length + 1) ≤ 1000000 := by omega
    cases g <;>
    · simp [evSs, evS, evE, evEs, evB, evC, evO, evP, evI, callD, argSl, argSls, bors, wb, frz, frzs, sees, R.see, lockS, unlockS, asgR, retR, setD, asgT, unlockO, backA, endF, nIf, nIfs, isAnd, truD, RD.r, binO, binD, cmpR, cmpO, isVl, cmpD, biO, biD, ixD, Mn.Loc, keyD, keyD0, meD, recv, gtD, apD, isObj, runC, evF, tyN, ↓evS_fr, ↓evS_frt, ↓evE_lc, L2.atI, L2.ixN, big, asgS_if, nl_un, nl_val, nl_own, q_pp, q_ep, q_ee, q_lp, q_gp, q_le, q_ge, q_ll, q_gl, eq_ii, wd_f, wd_t, n_pe, n_pl, n_pg, n_ep, n_el, n_eg, n_lp, n_le, n_lg, n_gp, n_ge, n_gl, k_p, k_e, k_l, k_g, j_p, j_e, j_l, j_g, putD, strsR, catS, fmtD, c_p, c_q, c_a, c_b, c_P, c_E, c_L, c_G, c_Lp, c_Gp, app_len, fn6, b19, isc_t, cN, i1l, i1g, i2l, i2g, i3l, i3g, at_parts]
      rw [lcT obD (fun p => .str (wr p)) ps .un rfl (fun d => by simp [evSs, evS, evE, evEs, evB, evC, evO, evP, evI, callD, argSl, argSls, bors, wb, frz, frzs, sees, R.see, lockS, unlockS, asgR, retR, setD, asgT, unlockO, backA, endF, nIf, nIfs, isAnd, truD, RD.r, binO, binD, cmpR, cmpO, isVl, cmpD, biO, biD, ixD, Mn.Loc, keyD, keyD0, meD, recv, gtD, apD, isObj, runC, evF, tyN, ↓evS_fr, ↓evS_frt, ↓evE_lc, L2.atI, L2.ixN, big, asgS_if, nl_un, nl_val, nl_own, q_pp, q_ep, q_ee, q_lp, q_gp, q_le, q_ge, q_ll, q_gl, eq_ii, wd_f, wd_t, n_pe, n_pl, n_pg, n_ep, n_el, n_eg, n_lp, n_le, n_lg, n_gp, n_ge, n_gl, k_p, k_e, k_l, k_g, j_p, j_e, j_l, j_g, putD, strsR, catS, fmtD, c_p, c_q, c_a, c_b, c_P, c_E, c_L, c_G, c_Lp, c_Gp, app_len, lpC]) (fun t ht => by
        have h1 := dep_le ht
        simp [evSs, evS, evE, evEs, evB, evC, evO, evP, evI, callD, argSl, argSls, bors, wb, frz, frzs, sees, R.see, lockS, unlockS, asgR, retR, setD, asgT, unlockO, backA, endF, nIf, nIfs, isAnd, truD, RD.r, binO, binD, cmpR, cmpO, isVl, cmpD, biO, biD, ixD, Mn.Loc, keyD, keyD0, meD, recv, gtD, apD, isObj, runC, evF, tyN, ↓evS_fr, ↓evS_frt, ↓evE_lc, L2.atI, L2.ixN, big, asgS_if, nl_un, nl_val, nl_own, q_pp, q_ep, q_ee, q_lp, q_gp, q_le, q_ge, q_ll, q_gl, eq_ii, wd_f, wd_t, n_pe, n_pl, n_pg, n_ep, n_el, n_eg, n_lp, n_le, n_lg, n_gp, n_ge, n_gl, k_p, k_e, k_l, k_g, j_p, j_e, j_l, j_g, putD, strsR, catS, fmtD, c_p, c_q, c_a, c_b, c_P, c_E, c_L, c_G, c_Lp, c_Gp, app_len, lpE, ih t ht (by omega) k (by omega)]) hlen]
      simp [evSs, evS, evE, evEs, evB, evC, evO, evP, evI, callD, argSl, argSls, bors, wb, frz, frzs, sees, R.see, lockS, unlockS, asgR, retR, setD, asgT, unlockO, backA, endF, nIf, nIfs, isAnd, truD, RD.r, binO, binD, cmpR, cmpO, isVl, cmpD, biO, biD, ixD, Mn.Loc, keyD, keyD0, meD, recv, gtD, apD, isObj, runC, evF, tyN, ↓evS_fr, ↓evS_frt, ↓evE_lc, L2.atI, L2.ixN, big, asgS_if, nl_un, nl_val, nl_own, q_pp, q_ep, q_ee, q_lp, q_gp, q_le, q_ge, q_ll, q_gl, eq_ii, wd_f, wd_t, n_pe, n_pl, n_pg, n_ep, n_el, n_eg, n_lp, n_le, n_lg, n_gp, n_ge, n_gl, k_p, k_e, k_l, k_g, j_p, j_e, j_l, j_g, putD, strsR, catS, fmtD, c_p, c_q, c_a, c_b, c_P, c_E, c_L, c_G, c_Lp, c_Gp, app_len, ej, isc_t, cN, i3l, i3g, b0, b1, b2, emp0, wr, ew, cw]
      simp only [LP, GP, app_assoc, app_emp]
/-! ## representations part terms -/
def cp (x : Str) : List Nat := x.cps.toList
theorem cp_app (a b : Str) : cp (a ++ b) = cp a ++ cp b := by
  show (a.cps ++ b.cps).toList = _
  rw [Array.toList_append] <;> rfl
theorem cp_inj {a b : Str} (h : cp a = cp b) : a = b := by
  obtain ⟨a⟩ := a
  obtain ⟨b⟩ := b
  have : a.toList = b.toList := h
  rw [Array.toList_inj] at this
  rw [this]
theorem k_P : cp (Str.ofString "Place") = [80, 108, 97, 99, 101] := by decide +kernel
theorem k_E : cp (Str.ofString "End") = [69, 110, 100] := by decide +kernel
theorem k_L : cp (Str.ofString "Lesser") = [76, 101, 115, 115, 101, 114] := by decide +kernel
theorem k_G : cp (Str.ofString "Greater") = [71, 114, 101, 97, 116, 101, 114] := by decide +kernel
theorem k_a : cp (Str.ofString "('") = [40, 39] := by decide +kernel
theorem k_b : cp (Str.ofString "')") = [39, 41] := by decide +kernel
theorem k_o : cp (Str.ofString "(") = [40] := by decide +kernel
theorem k_c : cp (Str.ofString ")") = [41] := by decide +kernel
theorem k_s : cp (Str.ofString ", ") = [44, 32] := by decide +kernel
def J (ps : List Tm) : List Nat := cp (Str.join (Str.ofString ", ") (wrs ps))
theorem tj (ps : List Tm) : cp (Txt.join (Str.ofString ", ") (wrs ps)) = J ps := by
  have e : Txt.join (Str.ofString ", ") (wrs ps) = Str.join (Str.ofString ", ") (wrs ps) := StrLaws.glued_eq_join _ _
  rw [e] <;> rfl
theorem J1 (p : Tm) : J [p] = cp (wr p) := rfl
theorem J2 (p q : Tm) (ps : List Tm) : J (p :: q :: ps) = cp (wr p) ++ (44 :: 32 :: J (q :: ps)) := by
  show cp ((wr p ++ Str.ofString ", ") ++ Str.join (Str.ofString ", ") (wrs (q :: ps))) = _
  rw [cp_app, cp_app, k_s]
  simp [evSs, evS, evE, evEs, evB, evC, evO, evP, evI, callD, argSl, argSls, bors, wb, frz, frzs, sees, R.see, lockS, unlockS, asgR, retR, setD, asgT, unlockO, backA, endF, nIf, nIfs, isAnd, truD, RD.r, binO, binD, cmpR, cmpO, isVl, cmpD, biO, biD, ixD, Mn.Loc, keyD, keyD0, meD, recv, gtD, apD, isObj, runC, evF, tyN, ↓evS_fr, ↓evS_frt, ↓evE_lc, L2.atI, L2.ixN, big, asgS_if, nl_un, nl_val, nl_own, q_pp, q_ep, q_ee, q_lp, q_gp, q_le, q_ge, q_ll, q_gl, eq_ii, wd_f, wd_t, n_pe, n_pl, n_pg, n_ep, n_el, n_eg, n_lp, n_le, n_lg, n_gp, n_ge, n_gl, k_p, k_e, k_l, k_g, j_p, j_e, j_l, j_g, putD, strsR, catS, fmtD, c_p, c_q, c_a, c_b, c_P, c_E, c_L, c_G, c_Lp, c_Gp, app_len, J]
theorem w_pl (x : Str) : cp (wr (.pl x)) = 80 :: 108 :: 97 :: 99 :: 101 :: 40 :: 39 :: (cp x ++ [39, 41]) := by
  simp [evSs, evS, evE, evEs, evB, evC, evO, evP, evI, callD, argSl, argSls, bors, wb, frz, frzs, sees, R.see, lockS, unlockS, asgR, retR, setD, asgT, unlockO, backA, endF, nIf, nIfs, isAnd, truD, RD.r, binO, binD, cmpR, cmpO, isVl, cmpD, biO, biD, ixD, Mn.Loc, keyD, keyD0, meD, recv, gtD, apD, isObj, runC, evF, tyN, ↓evS_fr, ↓evS_frt, ↓evE_lc, L2.atI, L2.ixN, big, asgS_if, nl_un, nl_val, nl_own, q_pp, q_ep, q_ee, q_lp, q_gp, q_le, q_ge, q_ll, q_gl, eq_ii, wd_f, wd_t, n_pe, n_pl, n_pg, n_ep, n_el, n_eg, n_lp, n_le, n_lg, n_gp, n_ge, n_gl, k_p, k_e, k_l, k_g, j_p, j_e, j_l, j_g, putD, strsR, catS, fmtD, c_p, c_q, c_a, c_b, c_P, c_E, c_L, c_G, c_Lp, c_Gp, app_len, wr, cp_app, k_P, k_a, k_b]
theorem w_en (x : Str) : cp (wr (.en x)) = 69 :: 110 :: 100 :: 40 :: 39 :: (cp x ++ [39, 41]) := by
  simp [evSs, evS, evE, evEs, evB, evC, evO, evP, evI, callD, argSl, argSls, bors, wb, frz, frzs, sees, R.see, lockS, unlockS, asgR, retR, setD, asgT, unlockO, backA, endF, nIf, nIfs, isAnd, truD, RD.r, binO, binD, cmpR, cmpO, isVl, cmpD, biO, biD, ixD, Mn.Loc, keyD, keyD0, meD, recv, gtD, apD, isObj, runC, evF, tyN, ↓evS_fr, ↓evS_frt, ↓evE_lc, L2.atI, L2.ixN, big, asgS_if, nl_un, nl_val, nl_own, q_pp, q_ep, q_ee, q_lp, q_gp, q_le, q_ge, q_ll, q_gl, eq_ii, wd_f, wd_t, n_pe, n_pl, n_pg, n_ep, n_el, n_eg, n_lp, n_le, n_lg, n_gp, n_ge, n_gl, k_p, k_e, k_l, k_g, j_p, j_e, j_l, j_g, putD, strsR, catS, fmtD, c_p, c_q, c_a, c_b, c_P, c_E, c_L, c_G, c_Lp, c_Gp, app_len, wr, cp_app, k_E, k_a, k_b]
theorem w_ls (ps : List Tm) : cp (wr (.nd false ps)) = 76 :: 101 :: 115 :: 115 :: 101 :: 114 :: 40 :: (J ps ++ [41]) := by
  simp [evSs, evS, evE, evEs, evB, evC, evO, evP, evI, callD, argSl, argSls, bors, wb, frz, frzs, sees, R.see, lockS, unlockS, asgR, retR, setD, asgT, unlockO, backA, endF, nIf, nIfs, isAnd, truD, RD.r, binO, binD, cmpR, cmpO, isVl, cmpD, biO, biD, ixD, Mn.Loc, keyD, keyD0, meD, recv, gtD, apD, isObj, runC, evF, tyN, ↓evS_fr, ↓evS_frt, ↓evE_lc, L2.atI, L2.ixN, big, asgS_if, nl_un, nl_val, nl_own, q_pp, q_ep, q_ee, q_lp, q_gp, q_le, q_ge, q_ll, q_gl, eq_ii, wd_f, wd_t, n_pe, n_pl, n_pg, n_ep, n_el, n_eg, n_lp, n_le, n_lg, n_gp, n_ge, n_gl, k_p, k_e, k_l, k_g, j_p, j_e, j_l, j_g, putD, strsR, catS, fmtD, c_p, c_q, c_a, c_b, c_P, c_E, c_L, c_G, c_Lp, c_Gp, app_len, wr, cp_app, k_L, k_o, k_c, cw, tj]
theorem w_gr (ps : List Tm) : cp (wr (.nd true ps)) = 71 :: 114 :: 101 :: 97 :: 116 :: 101 :: 114 :: 40 :: (J ps ++ [41]) := by
  simp [evSs, evS, evE, evEs, evB, evC, evO, evP, evI, callD, argSl, argSls, bors, wb, frz, frzs, sees, R.see, lockS, unlockS, asgR, retR, setD, asgT, unlockO, backA, endF, nIf, nIfs, isAnd, truD, RD.r, binO, binD, cmpR, cmpO, isVl, cmpD, biO, biD, ixD, Mn.Loc, keyD, keyD0, meD, recv, gtD, apD, isObj, runC, evF, tyN, ↓evS_fr, ↓evS_frt, ↓evE_lc, L2.atI, L2.ixN, big, asgS_if, nl_un, nl_val, nl_own, q_pp, q_ep, q_ee, q_lp, q_gp, q_le, q_ge, q_ll, q_gl, eq_ii, wd_f, wd_t, n_pe, n_pl, n_pg, n_ep, n_el, n_eg, n_lp, n_le, n_lg, n_gp, n_ge, n_gl, k_p, k_e, k_l, k_g, j_p, j_e, j_l, j_g, putD, strsR, catS, fmtD, c_p, c_q, c_a, c_b, c_P, c_E, c_L, c_G, c_Lp, c_Gp, app_len, wr, cp_app, k_G, k_o, k_c, cw, tj]
theorem cp_len (x : Str) : (cp x).length = x.length := by
  show x.cps.toList.length = x.cps.size
  simp [evSs, evS, evE, evEs, evB, evC, evO, evP, evI, callD, argSl, argSls, bors, wb, frz, frzs, sees, R.see, lockS, unlockS, asgR, retR, setD, asgT, unlockO, backA, endF, nIf, nIfs, isAnd, truD, RD.r, binO, binD, cmpR, cmpO, isVl, cmpD, biO, biD, ixD, Mn.Loc, keyD, keyD0, meD, recv, gtD, apD, isObj, runC, evF, tyN, ↓evS_fr, ↓evS_frt, ↓evE_lc, L2.atI, L2.ixN, big, asgS_if, nl_un, nl_val, nl_own, q_pp, q_ep, q_ee, q_lp, q_gp, q_le, q_ge, q_ll, q_gl, eq_ii, wd_f, wd_t, n_pe, n_pl, n_pg, n_ep, n_el, n_eg, n_lp, n_le, n_lg, n_gp, n_ge, n_gl, k_p, k_e, k_l, k_g, j_p, j_e, j_l, j_g, putD, strsR, catS, fmtD, c_p, c_q, c_a, c_b, c_P, c_E, c_L, c_G, c_Lp, c_Gp, app_len]
theorem k_bot : cp (Str.ofString "bottom") = [98, 111, 116, 116, 111, 109] := by decide +kernel
theorem k_top : cp (Str.ofString "top") = [116, 111, 112] := by decide +kernel
theorem wr_inj {t : Tm} (ht : Wf t) : ∀ {u : Tm}, Wf u → ∀ s s', cp (wr t) ++ s = cp (wr u) ++ s' → t = u ∧ s = s' := by
  induction ht with
  | @pl x hx =>
    intro u hu s s' h
    cases hu with
    | @pl y hy =>
      rw [w_pl, w_pl] at h
      simp only [List.cons_append, List.cons.injEq, true_and, List.append_assoc] at h
      obtain ⟨h1, h2⟩ := List.append_inj h (by rw [cp_len, cp_len, pl_len hx, pl_len hy])
      simp [evSs, evS, evE, evEs, evB, evC, evO, evP, evI, callD, argSl, argSls, bors, wb, frz, frzs, sees, R.see, lockS, unlockS, asgR, retR, setD, asgT, unlockO, backA, endF, nIf, nIfs, isAnd, truD, RD.r, binO, binD, cmpR, cmpO, isVl, cmpD, biO, biD, ixD, Mn.Loc, keyD, keyD0, meD, recv, gtD, apD, isObj, runC, evF, tyN, ↓evS_fr, ↓evS_frt, ↓evE_lc, L2.atI, L2.ixN, big, asgS_if, nl_un, nl_val, nl_own, q_pp, q_ep, q_ee, q_lp, q_gp, q_le, q_ge, q_ll, q_gl, eq_ii, wd_f, wd_t, n_pe, n_pl, n_pg, n_ep, n_el, n_eg, n_lp, n_le, n_lg, n_gp, n_ge, n_gl, k_p, k_e, k_l, k_g, j_p, j_e, j_l, j_g, putD, strsR, catS, fmtD, c_p, c_q, c_a, c_b, c_P, c_E, c_L, c_G, c_Lp, c_Gp, app_len] at h2
      exact ⟨by rw [cp_inj h1], h2⟩
    | en hy => rw [w_pl, w_en] at h; simp [evSs, evS, evE, evEs, evB, evC, evO, evP, evI, callD, argSl, argSls, bors, wb, frz, frzs, sees, R.see, lockS, unlockS, asgR, retR, setD, asgT, unlockO, backA, endF, nIf, nIfs, isAnd, truD, RD.r, binO, binD, cmpR, cmpO, isVl, cmpD, biO, biD, ixD, Mn.Loc, keyD, keyD0, meD, recv, gtD, apD, isObj, runC, evF, tyN, ↓evS_fr, ↓evS_frt, ↓evE_lc, L2.atI, L2.ixN, big, asgS_if, nl_un, nl_val, nl_own, q_pp, q_ep, q_ee, q_lp, q_gp, q_le, q_ge, q_ll, q_gl, eq_ii, wd_f, wd_t, n_pe, n_pl, n_pg, n_ep, n_el, n_eg, n_lp, n_le, n_lg, n_gp, n_ge, n_gl, k_p, k_e, k_l, k_g, j_p, j_e, j_l, j_g, putD, strsR, catS, fmtD, c_p, c_q, c_a, c_b, c_P, c_E, c_L, c_G, c_Lp, c_Gp, app_len] at h
    | @nd g ps _ _ => cases g <;> (first | rw [w_pl, w_ls] at h | rw [w_pl, w_gr] at h) <;> simp [evSs, evS, evE, evEs, evB, evC, evO, evP, evI, callD, argSl, argSls, bors, wb, frz, frzs, sees, R.see, lockS, unlockS, asgR, retR, setD, asgT, unlockO, backA, endF, nIf, nIfs, isAnd, truD, RD.r, binO, binD, cmpR, cmpO, isVl, cmpD, biO, biD, ixD, Mn.Loc, keyD, keyD0, meD, recv, gtD, apD, isObj, runC, evF, tyN, ↓evS_fr, ↓evS_frt, ↓evE_lc, L2.atI, L2.ixN, big, asgS_if, nl_un, nl_val, nl_own, q_pp, q_ep, q_ee, q_lp, q_gp, q_le, q_ge, q_ll, q_gl, eq_ii, wd_f, wd_t, n_pe, n_pl, n_pg, n_ep, n_el, n_eg, n_lp, n_le, n_lg, n_gp, n_ge, n_gl, k_p, k_e, k_l, k_g, j_p, j_e, j_l, j_g, putD, strsR, catS, fmtD, c_p, c_q, c_a, c_b, c_P, c_E, c_L, c_G, c_Lp, c_Gp, app_len] at h
  | @en x hx =>
    intro u hu s s' h
    cases hu with
    | pl hy => rw [w_pl, w_en] at h; simp [evSs, evS, evE, evEs, evB, evC, evO, evP, evI, callD, argSl, argSls, bors, wb, frz, frzs, sees, R.see, lockS, unlockS, asgR, retR, setD, asgT, unlockO, backA, endF, nIf, nIfs, isAnd, truD, RD.r, binO, binD, cmpR, cmpO, isVl, cmpD, biO, biD, ixD, Mn.Loc, keyD, keyD0, meD, recv, gtD, apD, isObj, runC, evF, tyN, ↓evS_fr, ↓evS_frt, ↓evE_lc, L2.atI, L2.ixN, big, asgS_if, nl_un, nl_val, nl_own, q_pp, q_ep, q_ee, q_lp, q_gp, q_le, q_ge, q_ll, q_gl, eq_ii, wd_f, wd_t, n_pe, n_pl, n_pg, n_ep, n_el, n_eg, n_lp, n_le, n_lg, n_gp, n_ge, n_gl, k_p, k_e, k_l, k_g, j_p, j_e, j_l, j_g, putD, strsR, catS, fmtD, c_p, c_q, c_a, c_b, c_P, c_E, c_L, c_G, c_Lp, c_Gp, app_len] at h
    | @en y hy =>
      rw [w_en, w_en] at h
      simp only [List.cons_append, List.cons.injEq, true_and, List.append_assoc] at h
      rcases hx with rfl | rfl <;> rcases hy with rfl | rfl <;> simp [evSs, evS, evE, evEs, evB, evC, evO, evP, evI, callD, argSl, argSls, bors, wb, frz, frzs, sees, R.see, lockS, unlockS, asgR, retR, setD, asgT, unlockO, backA, endF, nIf, nIfs, isAnd, truD, RD.r, binO, binD, cmpR, cmpO, isVl, cmpD, biO, biD, ixD, Mn.Loc, keyD, keyD0, meD, recv, gtD, apD, isObj, runC, evF, tyN, ↓evS_fr, ↓evS_frt, ↓evE_lc, L2.atI, L2.ixN, big, asgS_if, nl_un, nl_val, nl_own, q_pp, q_ep, q_ee, q_lp, q_gp, q_le, q_ge, q_ll, q_gl, eq_ii, wd_f, wd_t, n_pe, n_pl, n_pg, n_ep, n_el, n_eg, n_lp, n_le, n_lg, n_gp, n_ge, n_gl, k_p, k_e, k_l, k_g, j_p, j_e, j_l, j_g, putD, strsR, catS, fmtD, c_p, c_q, c_a, c_b, c_P, c_E, c_L, c_G, c_Lp, c_Gp, app_len, k_bot, k_top] at h ⊢ <;> exact h
    | @nd g ps _ _ => cases g <;> (first | rw [w_en, w_ls] at h | rw [w_en, w_gr] at h) <;> simp [evSs, evS, evE, evEs, evB, evC, evO, evP, evI, callD, argSl, argSls, bors, wb, frz, frzs, sees, R.see, lockS, unlockS, asgR, retR, setD, asgT, unlockO, backA, endF, nIf, nIfs, isAnd, truD, RD.r, binO, binD, cmpR, cmpO, isVl, cmpD, biO, biD, ixD, Mn.Loc, keyD, keyD0, meD, recv, gtD, apD, isObj, runC, evF, tyN, ↓evS_fr, ↓evS_frt, ↓evE_lc, L2.atI, L2.ixN, big, asgS_if, nl_un, nl_val, nl_own, q_pp, q_ep, q_ee, q_lp, q_gp, q_le, q_ge, q_ll, q_gl, eq_ii, wd_f, wd_t, n_pe, n_pl, n_pg, n_ep, n_el, n_eg, n_lp, n_le, n_lg, n_gp, n_ge, n_gl, k_p, k_e, k_l, k_g, j_p, j_e, j_l, j_g, putD, strsR, catS, fmtD, c_p, c_q, c_a, c_b, c_P, c_E, c_L, c_G, c_Lp, c_Gp, app_len] at h
  | @nd g ps hp hl ih =>
    intro u hu s s' h
    have lst : ∀ (ps : List Tm), (∀ p ∈ ps, ∀ {u : Tm}, Wf u → ∀ s s', cp (wr p) ++ s = cp (wr u) ++ s' → p = u ∧ s = s') → ps ≠ [] → ∀ (qs : List Tm), (∀ q ∈ qs, Wf q) → qs ≠ [] → ∀ s s', J ps ++ (41 :: s) = J qs ++ (41 :: s') → ps = qs ∧ s = s' := by
      intro ps
      induction ps with
      | nil => intro _ h; exact absurd rfl h
      | cons p ps ihl =>
        intro hP _ qs hq hne s s' h
        cases qs with
        | nil => exact absurd rfl hne
        | cons q qs =>
          have pq := hP p (by simp [evSs, evS, evE, evEs, evB, evC, evO, evP, evI, callD, argSl, argSls, bors, wb, frz, frzs, sees, R.see, lockS, unlockS, asgR, retR, setD, asgT, unlockO, backA, endF, nIf, nIfs, isAnd, truD, RD.r, binO, binD, cmpR, cmpO, isVl, cmpD, biO, biD, ixD, Mn.Loc, keyD, keyD0, meD, recv, gtD, apD, isObj, runC, evF, tyN, ↓evS_fr, ↓evS_frt, ↓evE_lc, L2.atI, L2.ixN, big, asgS_if, nl_un, nl_val, nl_own, q_pp, q_ep, q_ee, q_lp, q_gp, q_le, q_ge, q_ll, q_gl, eq_ii, wd_f, wd_t, n_pe, n_pl, n_pg, n_ep, n_el, n_eg, n_lp, n_le, n_lg, n_gp, n_ge, n_gl, k_p, k_e, k_l, k_g, j_p, j_e, j_l, j_g, putD, strsR, catS, fmtD, c_p, c_q, c_a, c_b, c_P, c_E, c_L, c_G, c_Lp, c_Gp, app_len]) (hq q (by simp [evSs, evS, evE, evEs, evB, evC, evO, evP, evI, callD, argSl, argSls, bors, wb, frz, frzs, sees, R.see, lockS, unlockS, asgR, retR, setD, asgT, unlockO, backA, endF, nIf, nIfs, isAnd, truD, RD.r, binO, binD, cmpR, cmpO, isVl, cmpD, biO, biD, ixD, Mn.Loc, keyD, keyD0, meD, recv, gtD, apD, isObj, runC, evF, tyN, ↓evS_fr, ↓evS_frt, ↓evE_lc, L2.atI, L2.ixN, big, asgS_if, nl_un, nl_val, nl_own, q_pp, q_ep, q_ee, q_lp, q_gp, q_le, q_ge, q_ll, q_gl, eq_ii, wd_f, wd_t, n_pe, n_pl, n_pg, n_ep, n_el, n_eg, n_lp, n_le, n_lg, n_gp, n_ge, n_gl, k_p, k_e, k_l, k_g, j_p, j_e, j_l, j_g, putD, strsR, catS, fmtD, c_p, c_q, c_a, c_b, c_P, c_E, c_L, c_G, c_Lp, c_Gp, app_len]))
          cases ps with
          | nil =>
            cases qs with
            | nil =>
              rw [J1, J1] at h
              obtain ⟨h1, h2⟩ := pq _ _ h
              simp [evSs, evS, evE, evEs, evB, evC, evO, evP, evI, callD, argSl, argSls, bors, wb, frz, frzs, sees, R.see, lockS, unlockS, asgR, retR, setD, asgT, unlockO, backA, endF, nIf, nIfs, isAnd, truD, RD.r, binO, binD, cmpR, cmpO, isVl, cmpD, biO, biD, ixD, Mn.Loc, keyD, keyD0, meD, recv, gtD, apD, isObj, runC, evF, tyN, ↓evS_fr, ↓evS_frt, ↓evE_lc, L2.atI, L2.ixN, big, asgS_if, nl_un, nl_val, nl_own, q_pp, q_ep, q_ee, q_lp, q_gp, q_le, q_ge, q_ll, q_gl, eq_ii, wd_f, wd_t, n_pe, n_pl, n_pg, n_ep, n_el, n_eg, n_lp, n_le, n_lg, n_gp, n_ge, n_gl, k_p, k_e, k_l, k_g, j_p, j_e, j_l, j_g, putD, strsR, catS, fmtD, c_p, c_q, c_a, c_b, c_P, c_E, c_L, c_G, c_Lp, c_Gp, app_len] at h2
              exact ⟨by rw [h1], h2⟩
            | cons q2 qs =>
              rw [J1, J2, List.append_assoc] at h
              obtain ⟨h1, h2⟩ := pq _ _ h
              simp [evSs, evS, evE, evEs, evB, evC, evO, evP, evI, callD, argSl, argSls, bors, wb, frz, frzs, sees, R.see, lockS, unlockS, asgR, retR, setD, asgT, unlockO, backA, endF, nIf, nIfs, isAnd, truD, RD.r, binO, binD, cmpR, cmpO, isVl, cmpD, biO, biD, ixD, Mn.Loc, keyD, keyD0, meD, recv, gtD, apD, isObj, runC, evF, tyN, ↓evS_fr, ↓evS_frt, ↓evE_lc, L2.atI, L2.ixN, big, asgS_if, nl_un, nl_val, nl_own, q_pp, q_ep, q_ee, q_lp, q_gp, q_le, q_ge, q_ll, q_gl, eq_ii, wd_f, wd_t, n_pe, n_pl, n_pg, n_ep, n_el, n_eg, n_lp, n_le, n_lg, n_gp, n_ge, n_gl, k_p, k_e, k_l, k_g, j_p, j_e, j_l, j_g, putD, strsR, catS, fmtD, c_p, c_q, c_a, c_b, c_P, c_E, c_L, c_G, c_Lp, c_Gp, app_len] at h2
          | cons p2 ps =>
            cases qs with
            | nil =>
              rw [J1, J2, List.append_assoc] at h
              obtain ⟨h1, h2⟩ := pq _ _ h
              simp [evSs, evS, evE, evEs, evB, evC, evO, evP, evI, callD, argSl, argSls, bors, wb, frz, frzs, sees, R.see, lockS, unlockS, asgR, retR, setD, asgT, unlockO, backA, endF, nIf, nIfs, isAnd, truD, RD.r, binO, binD, cmpR, cmpO, isVl, cmpD, biO, biD, ixD, Mn.Loc, keyD, keyD0, meD, recv, gtD, apD, isObj, runC, evF, tyN, ↓evS_fr, ↓evS_frt, ↓evE_lc, L2.atI, L2.ixN, big, asgS_if, nl_un, nl_val, nl_own, q_pp, q_ep, q_ee, q_lp, q_gp, q_le, q_ge, q_ll, q_gl, eq_ii, wd_f, wd_t, n_pe, n_pl, n_pg, n_ep, n_el, n_eg, n_lp, n_le, n_lg, n_gp, n_ge, n_gl, k_p, k_e, k_l, k_g, j_p, j_e, j_l, j_g, putD, strsR, catS, fmtD, c_p, c_q, c_a, c_b, c_P, c_E, c_L, c_G, c_Lp, c_Gp, app_len] at h2
            | cons q2 qs =>
              rw [J2, J2, List.append_assoc, List.append_assoc] at h
              obtain ⟨h1, h2⟩ := pq _ _ h
              simp only [List.cons_append, List.cons.injEq, true_and] at h2
              obtain ⟨h3, h4⟩ := ihl (fun p hpp => hP p (by simp [evSs, evS, evE, evEs, evB, evC, evO, evP, evI, callD, argSl, argSls, bors, wb, frz, frzs, sees, R.see, lockS, unlockS, asgR, retR, setD, asgT, unlockO, backA, endF, nIf, nIfs, isAnd, truD, RD.r, binO, binD, cmpR, cmpO, isVl, cmpD, biO, biD, ixD, Mn.Loc, keyD, keyD0, meD, recv, gtD, apD, isObj, runC, evF, tyN, ↓evS_fr, ↓evS_frt, ↓evE_lc, L2.atI, L2.ixN, big, asgS_if, nl_un, nl_val, nl_own, q_pp, q_ep, q_ee, q_lp, q_gp, q_le, q_ge, q_ll, q_gl, eq_ii, wd_f, wd_t, n_pe, n_pl, n_pg, n_ep, n_el, n_eg, n_lp, n_le, n_lg, n_gp, n_ge, n_gl, k_p, k_e, k_l, k_g, j_p, j_e, j_l, j_g, putD, strsR, catS, fmtD, c_p, c_q, c_a, c_b, c_P, c_E, c_L, c_G, c_Lp, c_Gp, app_len, hpp])) (by simp [evSs, evS, evE, evEs, evB, evC, evO, evP, evI, callD, argSl, argSls, bors, wb, frz, frzs, sees, R.see, lockS, unlockS, asgR, retR, setD, asgT, unlockO, backA, endF, nIf, nIfs, isAnd, truD, RD.r, binO, binD, cmpR, cmpO, isVl, cmpD, biO, biD, ixD, Mn.Loc, keyD, keyD0, meD, recv, gtD, apD, isObj, runC, evF, tyN, ↓evS_fr, ↓evS_frt, ↓evE_lc, L2.atI, L2.ixN, big, asgS_if, nl_un, nl_val, nl_own, q_pp, q_ep, q_ee, q_lp, q_gp, q_le, q_ge, q_ll, q_gl, eq_ii, wd_f, wd_t, n_pe, n_pl, n_pg, n_ep, n_el, n_eg, n_lp, n_le, n_lg, n_gp, n_ge, n_gl, k_p, k_e, k_l, k_g, j_p, j_e, j_l, j_g, putD, strsR, catS, fmtD, c_p, c_q, c_a, c_b, c_P, c_E, c_L, c_G, c_Lp, c_Gp, app_len]) (q2 :: qs) (fun q hqq => hq q (by simp [evSs, evS, evE, evEs, evB, evC, evO, evP, evI, callD, argSl, argSls, bors, wb, frz, frzs, sees, R.see, lockS, unlockS, asgR, retR, setD, asgT, unlockO, backA, endF, nIf, nIfs, isAnd, truD, RD.r, binO, binD, cmpR, cmpO, isVl, cmpD, biO, biD, ixD, Mn.Loc, keyD, keyD0, meD, recv, gtD, apD, isObj, runC, evF, tyN, ↓evS_fr, ↓evS_frt, ↓evE_lc, L2.atI, L2.ixN, big, asgS_if, nl_un, nl_val, nl_own, q_pp, q_ep, q_ee, q_lp, q_gp, q_le, q_ge, q_ll, q_gl, eq_ii, wd_f, wd_t, n_pe, n_pl, n_pg, n_ep, n_el, n_eg, n_lp, n_le, n_lg, n_gp, n_ge, n_gl, k_p, k_e, k_l, k_g, j_p, j_e, j_l, j_g, putD, strsR, catS, fmtD, c_p, c_q, c_a, c_b, c_P, c_E, c_L, c_G, c_Lp, c_Gp, app_len, hqq])) (by simp [evSs, evS, evE, evEs, evB, evC, evO, evP, evI, callD, argSl, argSls, bors, wb, frz, frzs, sees, R.see, lockS, unlockS, asgR, retR, setD, asgT, unlockO, backA, endF, nIf, nIfs, isAnd, truD, RD.r, binO, binD, cmpR, cmpO, isVl, cmpD, biO, biD, ixD, Mn.Loc, keyD, keyD0, meD, recv, gtD, apD, isObj, runC, evF, tyN, ↓evS_fr, ↓evS_frt, ↓evE_lc, L2.atI, L2.ixN, big, asgS_if, nl_un, nl_val, nl_own, q_pp, q_ep, q_ee, q_lp, q_gp, q_le, q_ge, q_ll, q_gl, eq_ii, wd_f, wd_t, n_pe, n_pl, n_pg, n_ep, n_el, n_eg, n_lp, n_le, n_lg, n_gp, n_ge, n_gl, k_p, k_e, k_l, k_g, j_p, j_e, j_l, j_g, putD, strsR, catS, fmtD, c_p, c_q, c_a, c_b, c_P, c_E, c_L, c_G, c_Lp, c_Gp, app_len]) s s' h2
              exact ⟨by rw [h1, h3], h4⟩
    have hne : ps ≠ [] := fun z => by rw [z] at hl; simp [evSs, evS, evE, evEs, evB, evC, evO, evP, evI, callD, argSl, argSls, bors, wb, frz, frzs, sees, R.see, lockS, unlockS, asgR, retR, setD, asgT, unlockO, backA, endF, nIf, nIfs, isAnd, truD, RD.r, binO, binD, cmpR, cmpO, isVl, cmpD, biO, biD, ixD, Mn.Loc, keyD, keyD0, meD, recv, gtD, apD, isObj, runC, evF, tyN, ↓evS_fr, ↓evS_frt, ↓evE_lc, L2.atI, L2.ixN, big, asgS_if, nl_un, nl_val, nl_own, q_pp, q_ep, q_ee, q_lp, q_gp, q_le, q_ge, q_ll, q_gl, eq_ii, wd_f, wd_t, n_pe, n_pl, n_pg, n_ep, n_el, n_eg, n_lp, n_le, n_lg, n_gp, n_ge, n_gl, k_p, k_e, k_l, k_g, j_p, j_e, j_l, j_g, putD, strsR, catS, fmtD, c_p, c_q, c_a, c_b, c_P, c_E, c_L, c_G, c_Lp, c_Gp, app_len] at hl
    cases hu with
    | pl hy => cases g <;> (first | rw [w_pl, w_ls] at h | rw [w_pl, w_gr] at h) <;> simp [evSs, evS, evE, evEs, evB, evC, evO, evP, evI, callD, argSl, argSls, bors, wb, frz, frzs, sees, R.see, lockS, unlockS, asgR, retR, setD, asgT, unlockO, backA, endF, nIf, nIfs, isAnd, truD, RD.r, binO, binD, cmpR, cmpO, isVl, cmpD, biO, biD, ixD, Mn.Loc, keyD, keyD0, meD, recv, gtD, apD, isObj, runC, evF, tyN, ↓evS_fr, ↓evS_frt, ↓evE_lc, L2.atI, L2.ixN, big, asgS_if, nl_un, nl_val, nl_own, q_pp, q_ep, q_ee, q_lp, q_gp, q_le, q_ge, q_ll, q_gl, eq_ii, wd_f, wd_t, n_pe, n_pl, n_pg, n_ep, n_el, n_eg, n_lp, n_le, n_lg, n_gp, n_ge, n_gl, k_p, k_e, k_l, k_g, j_p, j_e, j_l, j_g, putD, strsR, catS, fmtD, c_p, c_q, c_a, c_b, c_P, c_E, c_L, c_G, c_Lp, c_Gp, app_len] at h
    | en hy => cases g <;> (first | rw [w_en, w_ls] at h | rw [w_en, w_gr] at h) <;> simp [evSs, evS, evE, evEs, evB, evC, evO, evP, evI, callD, argSl, argSls, bors, wb, frz, frzs, sees, R.see, lockS, unlockS, asgR, retR, setD, asgT, unlockO, backA, endF, nIf, nIfs, isAnd, truD, RD.r, binO, binD, cmpR, cmpO, isVl, cmpD, biO, biD, ixD, Mn.Loc, keyD, keyD0, meD, recv, gtD, apD, isObj, runC, evF, tyN, ↓evS_fr, ↓evS_frt, ↓evE_lc, L2.atI, L2.ixN, big, asgS_if, nl_un, nl_val, nl_own, q_pp, q_ep, q_ee, q_lp, q_gp, q_le, q_ge, q_ll, q_gl, eq_ii, wd_f, wd_t, n_pe, n_pl, n_pg, n_ep, n_el, n_eg, n_lp, n_le, n_lg, n_gp, n_ge, n_gl, k_p, k_e, k_l, k_g, j_p, j_e, j_l, j_g, putD, strsR, catS, fmtD, c_p, c_q, c_a, c_b, c_P, c_E, c_L, c_G, c_Lp, c_Gp, app_len] at h
    | @nd g' qs hq hl' =>
      have hne' : qs ≠ [] := fun z => by rw [z] at hl'; simp [evSs, evS, evE, evEs, evB, evC, evO, evP, evI, callD, argSl, argSls, bors, wb, frz, frzs, sees, R.see, lockS, unlockS, asgR, retR, setD, asgT, unlockO, backA, endF, nIf, nIfs, isAnd, truD, RD.r, binO, binD, cmpR, cmpO, isVl, cmpD, biO, biD, ixD, Mn.Loc, keyD, keyD0, meD, recv, gtD, apD, isObj, runC, evF, tyN, ↓evS_fr, ↓evS_frt, ↓evE_lc, L2.atI, L2.ixN, big, asgS_if, nl_un, nl_val, nl_own, q_pp, q_ep, q_ee, q_lp, q_gp, q_le, q_ge, q_ll, q_gl, eq_ii, wd_f, wd_t, n_pe, n_pl, n_pg, n_ep, n_el, n_eg, n_lp, n_le, n_lg, n_gp, n_ge, n_gl, k_p, k_e, k_l, k_g, j_p, j_e, j_l, j_g, putD, strsR, catS, fmtD, c_p, c_q, c_a, c_b, c_P, c_E, c_L, c_G, c_Lp, c_Gp, app_len] at hl'
      have key : ∀ s s', (J ps ++ [41]) ++ s = (J qs ++ [41]) ++ s' → ps = qs ∧ s = s' := fun s s' h => lst ps ih hne qs hq hne' s s' (by simpa using h)
      cases g <;> cases g'
      · rw [w_ls, w_ls] at h
        simp only [List.cons_append, List.cons.injEq, true_and] at h
        obtain ⟨h1, h2⟩ := key _ _ h
        exact ⟨by rw [h1], h2⟩
      · rw [w_ls, w_gr] at h; simp [evSs, evS, evE, evEs, evB, evC, evO, evP, evI, callD, argSl, argSls, bors, wb, frz, frzs, sees, R.see, lockS, unlockS, asgR, retR, setD, asgT, unlockO, backA, endF, nIf, nIfs, isAnd, truD, RD.r, binO, binD, cmpR, cmpO, isVl, cmpD, biO, biD, ixD, Mn.Loc, keyD, keyD0, meD, recv, gtD, apD, isObj, runC, evF, tyN, ↓evS_fr, ↓evS_frt, ↓evE_lc, L2.atI, L2.ixN, big, asgS_if, nl_un, nl_val, nl_own, q_pp, q_ep, q_ee, q_lp, q_gp, q_le, q_ge, q_ll, q_gl, eq_ii, wd_f, wd_t, n_pe, n_pl, n_pg, n_ep, n_el, n_eg, n_lp, n_le, n_lg, n_gp, n_ge, n_gl, k_p, k_e, k_l, k_g, j_p, j_e, j_l, j_g, putD, strsR, catS, fmtD, c_p, c_q, c_a, c_b, c_P, c_E, c_L, c_G, c_Lp, c_Gp, app_len] at h
      · rw [w_ls, w_gr] at h; simp [evSs, evS, evE, evEs, evB, evC, evO, evP, evI, callD, argSl, argSls, bors, wb, frz, frzs, sees, R.see, lockS, unlockS, asgR, retR, setD, asgT, unlockO, backA, endF, nIf, nIfs, isAnd, truD, RD.r, binO, binD, cmpR, cmpO, isVl, cmpD, biO, biD, ixD, Mn.Loc, keyD, keyD0, meD, recv, gtD, apD, isObj, runC, evF, tyN, ↓evS_fr, ↓evS_frt, ↓evE_lc, L2.atI, L2.ixN, big, asgS_if, nl_un, nl_val, nl_own, q_pp, q_ep, q_ee, q_lp, q_gp, q_le, q_ge, q_ll, q_gl, eq_ii, wd_f, wd_t, n_pe, n_pl, n_pg, n_ep, n_el, n_eg, n_lp, n_le, n_lg, n_gp, n_ge, n_gl, k_p, k_e, k_l, k_g, j_p, j_e, j_l, j_g, putD, strsR, catS, fmtD, c_p, c_q, c_a, c_b, c_P, c_E, c_L, c_G, c_Lp, c_Gp, app_len] at h
      · rw [w_gr, w_gr] at h
        simp only [List.cons_append, List.cons.injEq, true_and] at h
        obtain ⟨h1, h2⟩ := key _ _ h
        exact ⟨by rw [h1], h2⟩
theorem wr_eq {t u : Tm} (ht : Wf t) (hu : Wf u) (h : wr t = wr u) : t = u := (wr_inj ht hu [] [] (by rw [h])).1
end K13

-- P13h
set_option Elab.async false
set_option linter.all false
set_option maxRecDepth 100000
set_option maxHeartbeats 4000000
set_option autoImplicit false
namespace K13
open PySem Mn
mutual
theorem eqvT : ∀ t u : Tm, (PyData.eqv (tmD t).py (tmD u).py = true ↔ t = u)
  | .pl x, .pl y => by simp [evSs, evS, evE, evEs, evB, evC, evO, evP, evI, callD, argSl, argSls, bors, wb, frz, frzs, sees, R.see, lockS, unlockS, asgR, retR, setD, asgT, unlockO, backA, endF, nIf, nIfs, isAnd, truD, RD.r, binO, binD, cmpR, cmpO, isVl, cmpD, biO, biD, ixD, Mn.Loc, keyD, keyD0, meD, recv, gtD, apD, isObj, runC, evF, tyN, ↓evS_fr, ↓evS_frt, ↓evE_lc, L2.atI, L2.ixN, big, asgS_if, nl_un, nl_val, nl_own, q_pp, q_ep, q_ee, q_lp, q_gp, q_le, q_ge, q_ll, q_gl, eq_ii, wd_f, wd_t, n_pe, n_pl, n_pg, n_ep, n_el, n_eg, n_lp, n_le, n_lg, n_gp, n_ge, n_gl, k_p, k_e, k_l, k_g, j_p, j_e, j_l, j_g, putD, strsR, catS, fmtD, c_p, c_q, c_a, c_b, c_P, c_E, c_L, c_G, c_Lp, c_Gp, app_len, tmD, D.py, pys, PyData.eqv, PyData.eqvAll]
  | .pl x, .en y => by simp [evSs, evS, evE, evEs, evB, evC, evO, evP, evI, callD, argSl, argSls, bors, wb, frz, frzs, sees, R.see, lockS, unlockS, asgR, retR, setD, asgT, unlockO, backA, endF, nIf, nIfs, isAnd, truD, RD.r, binO, binD, cmpR, cmpO, isVl, cmpD, biO, biD, ixD, Mn.Loc, keyD, keyD0, meD, recv, gtD, apD, isObj, runC, evF, tyN, ↓evS_fr, ↓evS_frt, ↓evE_lc, L2.atI, L2.ixN, big, asgS_if, nl_un, nl_val, nl_own, q_pp, q_ep, q_ee, q_lp, q_gp, q_le, q_ge, q_ll, q_gl, eq_ii, wd_f, wd_t, n_pe, n_pl, n_pg, n_ep, n_el, n_eg, n_lp, n_le, n_lg, n_gp, n_ge, n_gl, k_p, k_e, k_l, k_g, j_p, j_e, j_l, j_g, putD, strsR, catS, fmtD, c_p, c_q, c_a, c_b, c_P, c_E, c_L, c_G, c_Lp, c_Gp, app_len, tmD, D.py, pys, PyData.eqv, PyData.eqvAll]
  | .pl x, .nd g ps => by cases g <;> simp [evSs, evS, evE, evEs, evB, evC, evO, evP, evI, callD, argSl, argSls, bors, wb, frz, frzs, sees, R.see, lockS, unlockS, asgR, retR, setD, asgT, unlockO, backA, endF, nIf, nIfs, isAnd, truD, RD.r, binO, binD, cmpR, cmpO, isVl, cmpD, biO, biD, ixD, Mn.Loc, keyD, keyD0, meD, recv, gtD, apD, isObj, runC, evF, tyN, ↓evS_fr, ↓evS_frt, ↓evE_lc, L2.atI, L2.ixN, big, asgS_if, nl_un, nl_val, nl_own, q_pp, q_ep, q_ee, q_lp, q_gp, q_le, q_ge, q_ll, q_gl, eq_ii, wd_f, wd_t, n_pe, n_pl, n_pg, n_ep, n_el, n_eg, n_lp, n_le, n_lg, n_gp, n_ge, n_gl, k_p, k_e, k_l, k_g, j_p, j_e, j_l, j_g, putD, strsR, catS, fmtD, c_p, c_q, c_a, c_b, c_P, c_E, c_L, c_G, c_Lp, c_Gp, app_len, tmD, D.py, pys, PyData.eqv, PyData.eqvAll]
  | .en x, .pl y => by simp [evSs, evS, evE, evEs, evB, evC, evO, evP, evI, callD, argSl, argSls, bors, wb, frz, frzs, sees, R.see, lockS, unlockS, asgR, retR, setD, asgT, unlockO, backA, endF, nIf, nIfs, isAnd, truD, RD.r, binO, binD, cmpR, cmpO, isVl, cmpD, biO, biD, ixD, Mn.Loc, keyD, keyD0, meD, recv, gtD, apD, isObj, runC, evF, tyN, ↓evS_fr, ↓evS_frt, ↓evE_lc, L2.atI, L2.ixN, big, asgS_if, nl_un, nl_val, nl_own, q_pp, q_ep, q_ee, q_lp, q_gp, q_le, q_ge, q_ll, q_gl, eq_ii, wd_f, wd_t, n_pe, n_pl, n_pg, n_ep, n_el, n_eg, n_lp, n_le, n_lg, n_gp, n_ge, n_gl, k_p, k_e, k_l, k_g, j_p, j_e, j_l, j_g, putD, strsR, catS, fmtD, c_p, c_q, c_a, c_b, c_P, c_E, c_L, c_G, c_Lp, c_Gp, app_len, tmD, D.py, pys, PyData.eqv, PyData.eqvAll]
  | .en x, .en y => by simp [evSs, evS, evE, evEs, evB, evC, evO, evP, evI, callD, argSl, argSls, bors, wb, frz, frzs, sees, R.see, lockS, unlockS, asgR, retR, setD, asgT, unlockO, backA, endF, nIf, nIfs, isAnd, truD, RD.r, binO, binD, cmpR, cmpO, isVl, cmpD, biO, biD, ixD, Mn.Loc, keyD, keyD0, meD, recv, gtD, apD, isObj, runC, evF, tyN, ↓evS_fr, ↓evS_frt, ↓evE_lc, L2.atI, L2.ixN, big, asgS_if, nl_un, nl_val, nl_own, q_pp, q_ep, q_ee, q_lp, q_gp, q_le, q_ge, q_ll, q_gl, eq_ii, wd_f, wd_t, n_pe, n_pl, n_pg, n_ep, n_el, n_eg, n_lp, n_le, n_lg, n_gp, n_ge, n_gl, k_p, k_e, k_l, k_g, j_p, j_e, j_l, j_g, putD, strsR, catS, fmtD, c_p, c_q, c_a, c_b, c_P, c_E, c_L, c_G, c_Lp, c_Gp, app_len, tmD, D.py, pys, PyData.eqv, PyData.eqvAll]
  | .en x, .nd g ps => by cases g <;> simp [evSs, evS, evE, evEs, evB, evC, evO, evP, evI, callD, argSl, argSls, bors, wb, frz, frzs, sees, R.see, lockS, unlockS, asgR, retR, setD, asgT, unlockO, backA, endF, nIf, nIfs, isAnd, truD, RD.r, binO, binD, cmpR, cmpO, isVl, cmpD, biO, biD, ixD, Mn.Loc, keyD, keyD0, meD, recv, gtD, apD, isObj, runC, evF, tyN, ↓evS_fr, ↓evS_frt, ↓evE_lc, L2.atI, L2.ixN, big, asgS_if, nl_un, nl_val, nl_own, q_pp, q_ep, q_ee, q_lp, q_gp, q_le, q_ge, q_ll, q_gl, eq_ii, wd_f, wd_t, n_pe, n_pl, n_pg, n_ep, n_el, n_eg, n_lp, n_le, n_lg, n_gp, n_ge, n_gl, k_p, k_e, k_l, k_g, j_p, j_e, j_l, j_g, putD, strsR, catS, fmtD, c_p, c_q, c_a, c_b, c_P, c_E, c_L, c_G, c_Lp, c_Gp, app_len, tmD, D.py, pys, PyData.eqv, PyData.eqvAll]
  | .nd g ps, .pl y => by cases g <;> simp [evSs, evS, evE, evEs, evB, evC, evO, evP, evI, callD, argSl, argSls, bors, wb, frz, frzs, sees, R.see, lockS, unlockS, asgR, retR, setD, asgT, unlockO, backA, endF, nIf, nIfs, isAnd, truD, RD.r, binO, binD, cmpR, cmpO, isVl, cmpD, biO, biD, ixD, Mn.Loc, keyD, keyD0, meD, recv, gtD, apD, isObj, runC, evF, tyN, ↓evS_fr, ↓evS_frt, ↓evE_lc, L2.atI, L2.ixN, big, asgS_if, nl_un, nl_val, nl_own, q_pp, q_ep, q_ee, q_lp, q_gp, q_le, q_ge, q_ll, q_gl, eq_ii, wd_f, wd_t, n_pe, n_pl, n_pg, n_ep, n_el, n_eg, n_lp, n_le, n_lg, n_gp, n_ge, n_gl, k_p, k_e, k_l, k_g, j_p, j_e, j_l, j_g, putD, strsR, catS, fmtD, c_p, c_q, c_a, c_b, c_P, c_E, c_L, c_G, c_Lp, c_Gp, app_len, tmD, D.py, pys, PyData.eqv, PyData.eqvAll]
  | .nd g ps, .en y => by cases g <;> simp [evSs, evS, evE, evEs, evB, evC, evO, evP, evI, callD, argSl, argSls, bors, wb, frz, frzs, sees, R.see, lockS, unlockS, asgR, retR, setD, asgT, unlockO, backA, endF, nIf, nIfs, isAnd, truD, RD.r, binO, binD, cmpR, cmpO, isVl, cmpD, biO, biD, ixD, Mn.Loc, keyD, keyD0, meD, recv, gtD, apD, isObj, runC, evF, tyN, ↓evS_fr, ↓evS_frt, ↓evE_lc, L2.atI, L2.ixN, big, asgS_if, nl_un, nl_val, nl_own, q_pp, q_ep, q_ee, q_lp, q_gp, q_le, q_ge, q_ll, q_gl, eq_ii, wd_f, wd_t, n_pe, n_pl, n_pg, n_ep, n_el, n_eg, n_lp, n_le, n_lg, n_gp, n_ge, n_gl, k_p, k_e, k_l, k_g, j_p, j_e, j_l, j_g, putD, strsR, catS, fmtD, c_p, c_q, c_a, c_b, c_P, c_E, c_L, c_G, c_Lp, c_Gp, app_len, tmD, D.py, pys, PyData.eqv, PyData.eqvAll]
  | .nd g ps, .nd g' qs => by
    have := eqvTs ps qs
    cases g <;> cases g' <;> simp [evSs, evS, evE, evEs, evB, evC, evO, evP, evI, callD, argSl, argSls, bors, wb, frz, frzs, sees, R.see, lockS, unlockS, asgR, retR, setD, asgT, unlockO, backA, endF, nIf, nIfs, isAnd, truD, RD.r, binO, binD, cmpR, cmpO, isVl, cmpD, biO, biD, ixD, Mn.Loc, keyD, keyD0, meD, recv, gtD, apD, isObj, runC, evF, tyN, ↓evS_fr, ↓evS_frt, ↓evE_lc, L2.atI, L2.ixN, big, asgS_if, nl_un, nl_val, nl_own, q_pp, q_ep, q_ee, q_lp, q_gp, q_le, q_ge, q_ll, q_gl, eq_ii, wd_f, wd_t, n_pe, n_pl, n_pg, n_ep, n_el, n_eg, n_lp, n_le, n_lg, n_gp, n_ge, n_gl, k_p, k_e, k_l, k_g, j_p, j_e, j_l, j_g, putD, strsR, catS, fmtD, c_p, c_q, c_a, c_b, c_P, c_E, c_L, c_G, c_Lp, c_Gp, app_len, tmD, D.py, pys, PyData.eqv, PyData.eqvAll, this]
theorem eqvTs : ∀ ps qs : List Tm, (PyData.eqvAll (pys (tmDs ps)) (pys (tmDs qs)) = true ↔ ps = qs)
  | [], [] => by simp [evSs, evS, evE, evEs, evB, evC, evO, evP, evI, callD, argSl, argSls, bors, wb, frz, frzs, sees, R.see, lockS, unlockS, asgR, retR, setD, asgT, unlockO, backA, endF, nIf, nIfs, isAnd, truD, RD.r, binO, binD, cmpR, cmpO, isVl, cmpD, biO, biD, ixD, Mn.Loc, keyD, keyD0, meD, recv, gtD, apD, isObj, runC, evF, tyN, ↓evS_fr, ↓evS_frt, ↓evE_lc, L2.atI, L2.ixN, big, asgS_if, nl_un, nl_val, nl_own, q_pp, q_ep, q_ee, q_lp, q_gp, q_le, q_ge, q_ll, q_gl, eq_ii, wd_f, wd_t, n_pe, n_pl, n_pg, n_ep, n_el, n_eg, n_lp, n_le, n_lg, n_gp, n_ge, n_gl, k_p, k_e, k_l, k_g, j_p, j_e, j_l, j_g, putD, strsR, catS, fmtD, c_p, c_q, c_a, c_b, c_P, c_E, c_L, c_G, c_Lp, c_Gp, app_len, tmDs, pys, PyData.eqvAll]
  | [], q :: qs => by simp [evSs, evS, evE, evEs, evB, evC, evO, evP, evI, callD, argSl, argSls, bors, wb, frz, frzs, sees, R.see, lockS, unlockS, asgR, retR, setD, asgT, unlockO, backA, endF, nIf, nIfs, isAnd, truD, RD.r, binO, binD, cmpR, cmpO, isVl, cmpD, biO, biD, ixD, Mn.Loc, keyD, keyD0, meD, recv, gtD, apD, isObj, runC, evF, tyN, ↓evS_fr, ↓evS_frt, ↓evE_lc, L2.atI, L2.ixN, big, asgS_if, nl_un, nl_val, nl_own, q_pp, q_ep, q_ee, q_lp, q_gp, q_le, q_ge, q_ll, q_gl, eq_ii, wd_f, wd_t, n_pe, n_pl, n_pg, n_ep, n_el, n_eg, n_lp, n_le, n_lg, n_gp, n_ge, n_gl, k_p, k_e, k_l, k_g, j_p, j_e, j_l, j_g, putD, strsR, catS, fmtD, c_p, c_q, c_a, c_b, c_P, c_E, c_L, c_G, c_Lp, c_Gp, app_len, tmDs, pys, PyData.eqvAll]
  | p :: ps, [] => by simp [evSs, evS, evE, evEs, evB, evC, evO, evP, evI, callD, argSl, argSls, bors, wb, frz, frzs, sees, R.see, lockS, unlockS, asgR, retR, setD, asgT, unlockO, backA, endF, nIf, nIfs, isAnd, truD, RD.r, binO, binD, cmpR, cmpO, isVl, cmpD, biO, biD, ixD, Mn.Loc, keyD, keyD0, meD, recv, gtD, apD, isObj, runC, evF, tyN, ↓evS_fr, ↓evS_frt, ↓evE_lc, L2.atI, L2.ixN, big, asgS_if, nl_un, nl_val, nl_own, q_pp, q_ep, q_ee, q_lp, q_gp, q_le, q_ge, q_ll, q_gl, eq_ii, wd_f, wd_t, n_pe, n_pl, n_pg, n_ep, n_el, n_eg, n_lp, n_le, n_lg, n_gp, n_ge, n_gl, k_p, k_e, k_l, k_g, j_p, j_e, j_l, j_g, putD, strsR, catS, fmtD, c_p, c_q, c_a, c_b, c_P, c_E, c_L, c_G, c_Lp, c_Gp, app_len, tmDs, pys, PyData.eqvAll]
  | p :: ps, q :: qs => by simp [evSs, evS, evE, evEs, evB, evC, evO, evP, evI, callD, argSl, argSls, bors, wb, frz, frzs, sees, R.see, lockS, unlockS, asgR, retR, setD, asgT, unlockO, backA, endF, nIf, nIfs, isAnd, truD, RD.r, binO, binD, cmpR, cmpO, isVl, cmpD, biO, biD, ixD, Mn.Loc, keyD, keyD0, meD, recv, gtD, apD, isObj, runC, evF, tyN, ↓evS_fr, ↓evS_frt, ↓evE_lc, L2.atI, L2.ixN, big, asgS_if, nl_un, nl_val, nl_own, q_pp, q_ep, q_ee, q_lp, q_gp, q_le, q_ge, q_ll, q_gl, eq_ii, wd_f, wd_t, n_pe, n_pl, n_pg, n_ep, n_el, n_eg, n_lp, n_le, n_lg, n_gp, n_ge, n_gl, k_p, k_e, k_l, k_g, j_p, j_e, j_l, j_g, putD, strsR, catS, fmtD, c_p, c_q, c_a, c_b, c_P, c_E, c_L, c_G, c_Lp, c_Gp, app_len, tmDs, pys, PyData.eqvAll, eqvT p q, eqvTs ps qs]
end
theorem strOk_app (a b : Str) : PyData.strOk (a ++ b) = (PyData.strOk a && PyData.strOk b) := by
  show (a.cps ++ b.cps).all _ = _
  rw [Array.all_append] <;> rfl
theorem pl_ok {x : Str} (h : x ∈ pls) : PyData.strOk x = true := by
  revert x
  decide +kernel
theorem en_ok {x : Str} (h : x = "bottom" ∨ x = "top") : PyData.strOk x = true := by
  rcases h with rfl | rfl <;> decide +kernel
theorem o_p : PyData.strOk (Str.ofString "place") = true := by decide +kernel
theorem o_e : PyData.strOk (Str.ofString "end") = true := by decide +kernel
theorem o_l : PyData.strOk (Str.ofString "lesser") = true := by decide +kernel
theorem o_g : PyData.strOk (Str.ofString "greater") = true := by decide +kernel
theorem join_ok {s : Str} (hs : PyData.strOk s = true) : ∀ {xs : List Str}, (∀ x ∈ xs, PyData.strOk x = true) → PyData.strOk (Str.join s xs) = true
  | [], _ => by
    show PyData.strOk Str.empty = true
    decide +kernel
  | [x], h => h x (by simp [evSs, evS, evE, evEs, evB, evC, evO, evP, evI, callD, argSl, argSls, bors, wb, frz, frzs, sees, R.see, lockS, unlockS, asgR, retR, setD, asgT, unlockO, backA, endF, nIf, nIfs, isAnd, truD, RD.r, binO, binD, cmpR, cmpO, isVl, cmpD, biO, biD, ixD, Mn.Loc, keyD, keyD0, meD, recv, gtD, apD, isObj, runC, evF, tyN, ↓evS_fr, ↓evS_frt, ↓evE_lc, L2.atI, L2.ixN, big, asgS_if, nl_un, nl_val, nl_own, q_pp, q_ep, q_ee, q_lp, q_gp, q_le, q_ge, q_ll, q_gl, eq_ii, wd_f, wd_t, n_pe, n_pl, n_pg, n_ep, n_el, n_eg, n_lp, n_le, n_lg, n_gp, n_ge, n_gl, k_p, k_e, k_l, k_g, j_p, j_e, j_l, j_g, putD, strsR, catS, fmtD, c_p, c_q, c_a, c_b, c_P, c_E, c_L, c_G, c_Lp, c_Gp, app_len])
  | x :: y :: r, h => by
    have := join_ok hs (xs := y :: r) (fun z hz => h z (by simp [evSs, evS, evE, evEs, evB, evC, evO, evP, evI, callD, argSl, argSls, bors, wb, frz, frzs, sees, R.see, lockS, unlockS, asgR, retR, setD, asgT, unlockO, backA, endF, nIf, nIfs, isAnd, truD, RD.r, binO, binD, cmpR, cmpO, isVl, cmpD, biO, biD, ixD, Mn.Loc, keyD, keyD0, meD, recv, gtD, apD, isObj, runC, evF, tyN, ↓evS_fr, ↓evS_frt, ↓evE_lc, L2.atI, L2.ixN, big, asgS_if, nl_un, nl_val, nl_own, q_pp, q_ep, q_ee, q_lp, q_gp, q_le, q_ge, q_ll, q_gl, eq_ii, wd_f, wd_t, n_pe, n_pl, n_pg, n_ep, n_el, n_eg, n_lp, n_le, n_lg, n_gp, n_ge, n_gl, k_p, k_e, k_l, k_g, j_p, j_e, j_l, j_g, putD, strsR, catS, fmtD, c_p, c_q, c_a, c_b, c_P, c_E, c_L, c_G, c_Lp, c_Gp, app_len, hz]))
    show PyData.strOk ((x ++ s) ++ Str.join s (y :: r)) = true
    rw [strOk_app, strOk_app, h x (by simp [evSs, evS, evE, evEs, evB, evC, evO, evP, evI, callD, argSl, argSls, bors, wb, frz, frzs, sees, R.see, lockS, unlockS, asgR, retR, setD, asgT, unlockO, backA, endF, nIf, nIfs, isAnd, truD, RD.r, binO, binD, cmpR, cmpO, isVl, cmpD, biO, biD, ixD, Mn.Loc, keyD, keyD0, meD, recv, gtD, apD, isObj, runC, evF, tyN, ↓evS_fr, ↓evS_frt, ↓evE_lc, L2.atI, L2.ixN, big, asgS_if, nl_un, nl_val, nl_own, q_pp, q_ep, q_ee, q_lp, q_gp, q_le, q_ge, q_ll, q_gl, eq_ii, wd_f, wd_t, n_pe, n_pl, n_pg, n_ep, n_el, n_eg, n_lp, n_le, n_lg, n_gp, n_ge, n_gl, k_p, k_e, k_l, k_g, j_p, j_e, j_l, j_g, putD, strsR, catS, fmtD, c_p, c_q, c_a, c_b, c_P, c_E, c_L, c_G, c_Lp, c_Gp, app_len]), hs, this] <;> rfl
theorem tjoin_ok {s : Str} (hs : PyData.strOk s = true) {xs : List Str} (h : ∀ x ∈ xs, PyData.strOk x = true) : PyData.strOk (Txt.join s xs) = true := by
  have e : Txt.join s xs = Str.join s xs := StrLaws.glued_eq_join _ _
  rw [e]
  exact join_ok hs h
theorem oks {t : Tm} (h : Wf t) : PyData.strOk (txt t) = true ∧ PyData.strOk (wr t) = true := by
  induction h with
  | pl hx =>
    refine ⟨pl_ok hx, ?_⟩
    rw [wr, strOk_app, strOk_app, strOk_app, pl_ok hx]
    decide +kernel
  | en hx =>
    refine ⟨en_ok hx, ?_⟩
    rw [wr, strOk_app, strOk_app, strOk_app, en_ok hx]
    decide +kernel
  | @nd g ps hp hl ih =>
    refine ⟨?_, ?_⟩
    · rw [txt, itxs_map]
      refine tjoin_ok (by cases g <;> decide +kernel) fun x hx => ?_
      obtain ⟨p, hpp, rfl⟩ := List.mem_map.mp hx
      have h1 := (ih p hpp).1
      cases p with
      | pl x => exact h1
      | en x => exact h1
      | nd g' ps' =>
        show PyData.strOk ((Str.ofString "(" ++ txt (.nd g' ps')) ++ Str.ofString ")") = true
        rw [strOk_app, strOk_app, h1]
        decide +kernel
    · have j : PyData.strOk (Txt.join (Str.ofString ", ") (wrs ps)) = true := by
        rw [wrs_map]
        refine tjoin_ok (by decide +kernel) fun x hx => ?_
        obtain ⟨p, hpp, rfl⟩ := List.mem_map.mp hx
        exact (ih p hpp).2
      rw [wr, strOk_app, strOk_app, strOk_app, j]
      cases g <;> decide +kernel
theorem eqOkT : ∀ t : Tm, D.eqOk (tmD t) = true := by
  have : ∀ n, ∀ t : Tm, sizeOf t ≤ n → D.eqOk (tmD t) = true := by
    intro n
    induction n with
    | zero => intro t h; cases t <;> simp [evSs, evS, evE, evEs, evB, evC, evO, evP, evI, callD, argSl, argSls, bors, wb, frz, frzs, sees, R.see, lockS, unlockS, asgR, retR, setD, asgT, unlockO, backA, endF, nIf, nIfs, isAnd, truD, RD.r, binO, binD, cmpR, cmpO, isVl, cmpD, biO, biD, ixD, Mn.Loc, keyD, keyD0, meD, recv, gtD, apD, isObj, runC, evF, tyN, ↓evS_fr, ↓evS_frt, ↓evE_lc, L2.atI, L2.ixN, big, asgS_if, nl_un, nl_val, nl_own, q_pp, q_ep, q_ee, q_lp, q_gp, q_le, q_ge, q_ll, q_gl, eq_ii, wd_f, wd_t, n_pe, n_pl, n_pg, n_ep, n_el, n_eg, n_lp, n_le, n_lg, n_gp, n_ge, n_gl, k_p, k_e, k_l, k_g, j_p, j_e, j_l, j_g, putD, strsR, catS, fmtD, c_p, c_q, c_a, c_b, c_P, c_E, c_L, c_G, c_Lp, c_Gp, app_len] at h
    | succ n ih =>
      intro t h
      cases t with
      | pl x => simp [evSs, evS, evE, evEs, evB, evC, evO, evP, evI, callD, argSl, argSls, bors, wb, frz, frzs, sees, R.see, lockS, unlockS, asgR, retR, setD, asgT, unlockO, backA, endF, nIf, nIfs, isAnd, truD, RD.r, binO, binD, cmpR, cmpO, isVl, cmpD, biO, biD, ixD, Mn.Loc, keyD, keyD0, meD, recv, gtD, apD, isObj, runC, evF, tyN, ↓evS_fr, ↓evS_frt, ↓evE_lc, L2.atI, L2.ixN, big, asgS_if, nl_un, nl_val, nl_own, q_pp, q_ep, q_ee, q_lp, q_gp, q_le, q_ge, q_ll, q_gl, eq_ii, wd_f, wd_t, n_pe, n_pl, n_pg, n_ep, n_el, n_eg, n_lp, n_le, n_lg, n_gp, n_ge, n_gl, k_p, k_e, k_l, k_g, j_p, j_e, j_l, j_g, putD, strsR, catS, fmtD, c_p, c_q, c_a, c_b, c_P, c_E, c_L, c_G, c_Lp, c_Gp, app_len, tmD, D.eqOk, eqOks]
      | en x => simp [evSs, evS, evE, evEs, evB, evC, evO, evP, evI, callD, argSl, argSls, bors, wb, frz, frzs, sees, R.see, lockS, unlockS, asgR, retR, setD, asgT, unlockO, backA, endF, nIf, nIfs, isAnd, truD, RD.r, binO, binD, cmpR, cmpO, isVl, cmpD, biO, biD, ixD, Mn.Loc, keyD, keyD0, meD, recv, gtD, apD, isObj, runC, evF, tyN, ↓evS_fr, ↓evS_frt, ↓evE_lc, L2.atI, L2.ixN, big, asgS_if, nl_un, nl_val, nl_own, q_pp, q_ep, q_ee, q_lp, q_gp, q_le, q_ge, q_ll, q_gl, eq_ii, wd_f, wd_t, n_pe, n_pl, n_pg, n_ep, n_el, n_eg, n_lp, n_le, n_lg, n_gp, n_ge, n_gl, k_p, k_e, k_l, k_g, j_p, j_e, j_l, j_g, putD, strsR, catS, fmtD, c_p, c_q, c_a, c_b, c_P, c_E, c_L, c_G, c_Lp, c_Gp, app_len, tmD, D.eqOk, eqOks]
      | nd g ps =>
        have hs : ∀ ps : List Tm, (∀ p ∈ ps, sizeOf p ≤ n) → eqOks (tmDs ps) = true := by
          intro ps
          induction ps with
          | nil => intro _; simp [evSs, evS, evE, evEs, evB, evC, evO, evP, evI, callD, argSl, argSls, bors, wb, frz, frzs, sees, R.see, lockS, unlockS, asgR, retR, setD, asgT, unlockO, backA, endF, nIf, nIfs, isAnd, truD, RD.r, binO, binD, cmpR, cmpO, isVl, cmpD, biO, biD, ixD, Mn.Loc, keyD, keyD0, meD, recv, gtD, apD, isObj, runC, evF, tyN, ↓evS_fr, ↓evS_frt, ↓evE_lc, L2.atI, L2.ixN, big, asgS_if, nl_un, nl_val, nl_own, q_pp, q_ep, q_ee, q_lp, q_gp, q_le, q_ge, q_ll, q_gl, eq_ii, wd_f, wd_t, n_pe, n_pl, n_pg, n_ep, n_el, n_eg, n_lp, n_le, n_lg, n_gp, n_ge, n_gl, k_p, k_e, k_l, k_g, j_p, j_e, j_l, j_g, putD, strsR, catS, fmtD, c_p, c_q, c_a, c_b, c_P, c_E, c_L, c_G, c_Lp, c_Gp, app_len, tmDs, eqOks]
          | cons p ps ih2 => intro hh; simp [evSs, evS, evE, evEs, evB, evC, evO, evP, evI, callD, argSl, argSls, bors, wb, frz, frzs, sees, R.see, lockS, unlockS, asgR, retR, setD, asgT, unlockO, backA, endF, nIf, nIfs, isAnd, truD, RD.r, binO, binD, cmpR, cmpO, isVl, cmpD, biO, biD, ixD, Mn.Loc, keyD, keyD0, meD, recv, gtD, apD, isObj, runC, evF, tyN, ↓evS_fr, ↓evS_frt, ↓evE_lc, L2.atI, L2.ixN, big, asgS_if, nl_un, nl_val, nl_own, q_pp, q_ep, q_ee, q_lp, q_gp, q_le, q_ge, q_ll, q_gl, eq_ii, wd_f, wd_t, n_pe, n_pl, n_pg, n_ep, n_el, n_eg, n_lp, n_le, n_lg, n_gp, n_ge, n_gl, k_p, k_e, k_l, k_g, j_p, j_e, j_l, j_g, putD, strsR, catS, fmtD, c_p, c_q, c_a, c_b, c_P, c_E, c_L, c_G, c_Lp, c_Gp, app_len, tmDs, eqOks, ih p (hh p (by simp [evSs, evS, evE, evEs, evB, evC, evO, evP, evI, callD, argSl, argSls, bors, wb, frz, frzs, sees, R.see, lockS, unlockS, asgR, retR, setD, asgT, unlockO, backA, endF, nIf, nIfs, isAnd, truD, RD.r, binO, binD, cmpR, cmpO, isVl, cmpD, biO, biD, ixD, Mn.Loc, keyD, keyD0, meD, recv, gtD, apD, isObj, runC, evF, tyN, ↓evS_fr, ↓evS_frt, ↓evE_lc, L2.atI, L2.ixN, big, asgS_if, nl_un, nl_val, nl_own, q_pp, q_ep, q_ee, q_lp, q_gp, q_le, q_ge, q_ll, q_gl, eq_ii, wd_f, wd_t, n_pe, n_pl, n_pg, n_ep, n_el, n_eg, n_lp, n_le, n_lg, n_gp, n_ge, n_gl, k_p, k_e, k_l, k_g, j_p, j_e, j_l, j_g, putD, strsR, catS, fmtD, c_p, c_q, c_a, c_b, c_P, c_E, c_L, c_G, c_Lp, c_Gp, app_len])), ih2 fun q hq => hh q (by simp [evSs, evS, evE, evEs, evB, evC, evO, evP, evI, callD, argSl, argSls, bors, wb, frz, frzs, sees, R.see, lockS, unlockS, asgR, retR, setD, asgT, unlockO, backA, endF, nIf, nIfs, isAnd, truD, RD.r, binO, binD, cmpR, cmpO, isVl, cmpD, biO, biD, ixD, Mn.Loc, keyD, keyD0, meD, recv, gtD, apD, isObj, runC, evF, tyN, ↓evS_fr, ↓evS_frt, ↓evE_lc, L2.atI, L2.ixN, big, asgS_if, nl_un, nl_val, nl_own, q_pp, q_ep, q_ee, q_lp, q_gp, q_le, q_ge, q_ll, q_gl, eq_ii, wd_f, wd_t, n_pe, n_pl, n_pg, n_ep, n_el, n_eg, n_lp, n_le, n_lg, n_gp, n_ge, n_gl, k_p, k_e, k_l, k_g, j_p, j_e, j_l, j_g, putD, strsR, catS, fmtD, c_p, c_q, c_a, c_b, c_P, c_E, c_L, c_G, c_Lp, c_Gp, app_len, hq])]
        have := hs ps fun p hp => by
          have := List.sizeOf_lt_of_mem hp
          simp [evSs, evS, evE, evEs, evB, evC, evO, evP, evI, callD, argSl, argSls, bors, wb, frz, frzs, sees, R.see, lockS, unlockS, asgR, retR, setD, asgT, unlockO, backA, endF, nIf, nIfs, isAnd, truD, RD.r, binO, binD, cmpR, cmpO, isVl, cmpD, biO, biD, ixD, Mn.Loc, keyD, keyD0, meD, recv, gtD, apD, isObj, runC, evF, tyN, ↓evS_fr, ↓evS_frt, ↓evE_lc, L2.atI, L2.ixN, big, asgS_if, nl_un, nl_val, nl_own, q_pp, q_ep, q_ee, q_lp, q_gp, q_le, q_ge, q_ll, q_gl, eq_ii, wd_f, wd_t, n_pe, n_pl, n_pg, n_ep, n_el, n_eg, n_lp, n_le, n_lg, n_gp, n_ge, n_gl, k_p, k_e, k_l, k_g, j_p, j_e, j_l, j_g, putD, strsR, catS, fmtD, c_p, c_q, c_a, c_b, c_P, c_E, c_L, c_G, c_Lp, c_Gp, app_len] at h
          omega
        simp [evSs, evS, evE, evEs, evB, evC, evO, evP, evI, callD, argSl, argSls, bors, wb, frz, frzs, sees, R.see, lockS, unlockS, asgR, retR, setD, asgT, unlockO, backA, endF, nIf, nIfs, isAnd, truD, RD.r, binO, binD, cmpR, cmpO, isVl, cmpD, biO, biD, ixD, Mn.Loc, keyD, keyD0, meD, recv, gtD, apD, isObj, runC, evF, tyN, ↓evS_fr, ↓evS_frt, ↓evE_lc, L2.atI, L2.ixN, big, asgS_if, nl_un, nl_val, nl_own, q_pp, q_ep, q_ee, q_lp, q_gp, q_le, q_ge, q_ll, q_gl, eq_ii, wd_f, wd_t, n_pe, n_pl, n_pg, n_ep, n_el, n_eg, n_lp, n_le, n_lg, n_gp, n_ge, n_gl, k_p, k_e, k_l, k_g, j_p, j_e, j_l, j_g, putD, strsR, catS, fmtD, c_p, c_q, c_a, c_b, c_P, c_E, c_L, c_G, c_Lp, c_Gp, app_len, tmD, D.eqOk, eqOks, this]
  exact fun t => this _ t (Nat.le_refl _)
theorem shapeT {t : Tm} (h : Wf t) : PyData.canLay0 (tmD t).py = true ∧ PyData.depth (tmD t).py ≤ 2 * dep t + 1 := by
  induction h with
  | pl hx => simp [evSs, evS, evE, evEs, evB, evC, evO, evP, evI, callD, argSl, argSls, bors, wb, frz, frzs, sees, R.see, lockS, unlockS, asgR, retR, setD, asgT, unlockO, backA, endF, nIf, nIfs, isAnd, truD, RD.r, binO, binD, cmpR, cmpO, isVl, cmpD, biO, biD, ixD, Mn.Loc, keyD, keyD0, meD, recv, gtD, apD, isObj, runC, evF, tyN, ↓evS_fr, ↓evS_frt, ↓evE_lc, L2.atI, L2.ixN, big, asgS_if, nl_un, nl_val, nl_own, q_pp, q_ep, q_ee, q_lp, q_gp, q_le, q_ge, q_ll, q_gl, eq_ii, wd_f, wd_t, n_pe, n_pl, n_pg, n_ep, n_el, n_eg, n_lp, n_le, n_lg, n_gp, n_ge, n_gl, k_p, k_e, k_l, k_g, j_p, j_e, j_l, j_g, putD, strsR, catS, fmtD, c_p, c_q, c_a, c_b, c_P, c_E, c_L, c_G, c_Lp, c_Gp, app_len, tmD, D.py, pys, PyData.canLay0, PyData.canLayAll0, o_p, pl_ok hx, PyData.depth, PyData.depthAll]
  | en hx => simp [evSs, evS, evE, evEs, evB, evC, evO, evP, evI, callD, argSl, argSls, bors, wb, frz, frzs, sees, R.see, lockS, unlockS, asgR, retR, setD, asgT, unlockO, backA, endF, nIf, nIfs, isAnd, truD, RD.r, binO, binD, cmpR, cmpO, isVl, cmpD, biO, biD, ixD, Mn.Loc, keyD, keyD0, meD, recv, gtD, apD, isObj, runC, evF, tyN, ↓evS_fr, ↓evS_frt, ↓evE_lc, L2.atI, L2.ixN, big, asgS_if, nl_un, nl_val, nl_own, q_pp, q_ep, q_ee, q_lp, q_gp, q_le, q_ge, q_ll, q_gl, eq_ii, wd_f, wd_t, n_pe, n_pl, n_pg, n_ep, n_el, n_eg, n_lp, n_le, n_lg, n_gp, n_ge, n_gl, k_p, k_e, k_l, k_g, j_p, j_e, j_l, j_g, putD, strsR, catS, fmtD, c_p, c_q, c_a, c_b, c_P, c_E, c_L, c_G, c_Lp, c_Gp, app_len, tmD, D.py, pys, PyData.canLay0, PyData.canLayAll0, o_e, en_ok hx, PyData.depth, PyData.depthAll]
  | @nd g ps hp hl ih =>
    have key : ∀ ps : List Tm, (∀ p ∈ ps, PyData.canLay0 (tmD p).py = true ∧ PyData.depth (tmD p).py ≤ 2 * dep p + 1) → PyData.canLayAll0 (pys (tmDs ps)) = true ∧ PyData.depthAll (pys (tmDs ps)) ≤ 2 * deps ps + 1 := by
      intro ps
      induction ps with
      | nil => intro _; simp [evSs, evS, evE, evEs, evB, evC, evO, evP, evI, callD, argSl, argSls, bors, wb, frz, frzs, sees, R.see, lockS, unlockS, asgR, retR, setD, asgT, unlockO, backA, endF, nIf, nIfs, isAnd, truD, RD.r, binO, binD, cmpR, cmpO, isVl, cmpD, biO, biD, ixD, Mn.Loc, keyD, keyD0, meD, recv, gtD, apD, isObj, runC, evF, tyN, ↓evS_fr, ↓evS_frt, ↓evE_lc, L2.atI, L2.ixN, big, asgS_if, nl_un, nl_val, nl_own, q_pp, q_ep, q_ee, q_lp, q_gp, q_le, q_ge, q_ll, q_gl, eq_ii, wd_f, wd_t, n_pe, n_pl, n_pg, n_ep, n_el, n_eg, n_lp, n_le, n_lg, n_gp, n_ge, n_gl, k_p, k_e, k_l, k_g, j_p, j_e, j_l, j_g, putD, strsR, catS, fmtD, c_p, c_q, c_a, c_b, c_P, c_E, c_L, c_G, c_Lp, c_Gp, app_len, tmDs, pys, PyData.canLayAll0, PyData.depthAll]
      | cons p ps ih2 =>
        intro hh
        obtain ⟨h1, h2⟩ := hh p (by simp [evSs, evS, evE, evEs, evB, evC, evO, evP, evI, callD, argSl, argSls, bors, wb, frz, frzs, sees, R.see, lockS, unlockS, asgR, retR, setD, asgT, unlockO, backA, endF, nIf, nIfs, isAnd, truD, RD.r, binO, binD, cmpR, cmpO, isVl, cmpD, biO, biD, ixD, Mn.Loc, keyD, keyD0, meD, recv, gtD, apD, isObj, runC, evF, tyN, ↓evS_fr, ↓evS_frt, ↓evE_lc, L2.atI, L2.ixN, big, asgS_if, nl_un, nl_val, nl_own, q_pp, q_ep, q_ee, q_lp, q_gp, q_le, q_ge, q_ll, q_gl, eq_ii, wd_f, wd_t, n_pe, n_pl, n_pg, n_ep, n_el, n_eg, n_lp, n_le, n_lg, n_gp, n_ge, n_gl, k_p, k_e, k_l, k_g, j_p, j_e, j_l, j_g, putD, strsR, catS, fmtD, c_p, c_q, c_a, c_b, c_P, c_E, c_L, c_G, c_Lp, c_Gp, app_len])
        obtain ⟨h3, h4⟩ := ih2 fun q hq => hh q (by simp [evSs, evS, evE, evEs, evB, evC, evO, evP, evI, callD, argSl, argSls, bors, wb, frz, frzs, sees, R.see, lockS, unlockS, asgR, retR, setD, asgT, unlockO, backA, endF, nIf, nIfs, isAnd, truD, RD.r, binO, binD, cmpR, cmpO, isVl, cmpD, biO, biD, ixD, Mn.Loc, keyD, keyD0, meD, recv, gtD, apD, isObj, runC, evF, tyN, ↓evS_fr, ↓evS_frt, ↓evE_lc, L2.atI, L2.ixN, big, asgS_if, nl_un, nl_val, nl_own, q_pp, q_ep, q_ee, q_lp, q_gp, q_le, q_ge, q_ll, q_gl, eq_ii, wd_f, wd_t, n_pe, n_pl, n_pg, n_ep, n_el, n_eg, n_lp, n_le, n_lg, n_gp, n_ge, n_gl, k_p, k_e, k_l, k_g, j_p, j_e, j_l, j_g, putD, strsR, catS, fmtD, c_p, c_q, c_a, c_b, c_P, c_E, c_L, c_G, c_Lp, c_Gp, app_len, hq])
        refine ⟨by simp [evSs, evS, evE, evEs, evB, evC, evO, evP, evI, callD, argSl, argSls, bors, wb, frz, frzs, sees, R.see, lockS, unlockS, asgR, retR, setD, asgT, unlockO, backA, endF, nIf, nIfs, isAnd, truD, RD.r, binO, binD, cmpR, cmpO, isVl, cmpD, biO, biD, ixD, Mn.Loc, keyD, keyD0, meD, recv, gtD, apD, isObj, runC, evF, tyN, ↓evS_fr, ↓evS_frt, ↓evE_lc, L2.atI, L2.ixN, big, asgS_if, nl_un, nl_val, nl_own, q_pp, q_ep, q_ee, q_lp, q_gp, q_le, q_ge, q_ll, q_gl, eq_ii, wd_f, wd_t, n_pe, n_pl, n_pg, n_ep, n_el, n_eg, n_lp, n_le, n_lg, n_gp, n_ge, n_gl, k_p, k_e, k_l, k_g, j_p, j_e, j_l, j_g, putD, strsR, catS, fmtD, c_p, c_q, c_a, c_b, c_P, c_E, c_L, c_G, c_Lp, c_Gp, app_len, tmDs, pys, PyData.canLayAll0, h1, h3], ?_⟩
        simp only [tmDs, pys, PyData.depthAll, deps]
        omega
    obtain ⟨h1, h2⟩ := key ps ih
    refine ⟨by cases g <;> simp [evSs, evS, evE, evEs, evB, evC, evO, evP, evI, callD, argSl, argSls, bors, wb, frz, frzs, sees, R.see, lockS, unlockS, asgR, retR, setD, asgT, unlockO, backA, endF, nIf, nIfs, isAnd, truD, RD.r, binO, binD, cmpR, cmpO, isVl, cmpD, biO, biD, ixD, Mn.Loc, keyD, keyD0, meD, recv, gtD, apD, isObj, runC, evF, tyN, ↓evS_fr, ↓evS_frt, ↓evE_lc, L2.atI, L2.ixN, big, asgS_if, nl_un, nl_val, nl_own, q_pp, q_ep, q_ee, q_lp, q_gp, q_le, q_ge, q_ll, q_gl, eq_ii, wd_f, wd_t, n_pe, n_pl, n_pg, n_ep, n_el, n_eg, n_lp, n_le, n_lg, n_gp, n_ge, n_gl, k_p, k_e, k_l, k_g, j_p, j_e, j_l, j_g, putD, strsR, catS, fmtD, c_p, c_q, c_a, c_b, c_P, c_E, c_L, c_G, c_Lp, c_Gp, app_len, tmD, D.py, pys, PyData.canLay0, PyData.canLayAll0, o_l, o_g, h1], ?_⟩
    simp only [tmD, D.py, pys, PyData.depth, PyData.depthAll, dep]
    omega
theorem eq_tm {t u : Tm} (ht : Wf t) (hu : Wf u) (dt : dep t ≤ 5) (du : dep u ≤ 5) : eqD (tmD t) (tmD u) = some (wr t == wr u) := by
  obtain ⟨a1, a2⟩ := shapeT ht
  obtain ⟨b1, b2⟩ := shapeT hu
  have s1 : SeqAt.shaped (tmD t).py = true := by simp [evSs, evS, evE, evEs, evB, evC, evO, evP, evI, callD, argSl, argSls, bors, wb, frz, frzs, sees, R.see, lockS, unlockS, asgR, retR, setD, asgT, unlockO, backA, endF, nIf, nIfs, isAnd, truD, RD.r, binO, binD, cmpR, cmpO, isVl, cmpD, biO, biD, ixD, Mn.Loc, keyD, keyD0, meD, recv, gtD, apD, isObj, runC, evF, tyN, ↓evS_fr, ↓evS_frt, ↓evE_lc, L2.atI, L2.ixN, big, asgS_if, nl_un, nl_val, nl_own, q_pp, q_ep, q_ee, q_lp, q_gp, q_le, q_ge, q_ll, q_gl, eq_ii, wd_f, wd_t, n_pe, n_pl, n_pg, n_ep, n_el, n_eg, n_lp, n_le, n_lg, n_gp, n_ge, n_gl, k_p, k_e, k_l, k_g, j_p, j_e, j_l, j_g, putD, strsR, catS, fmtD, c_p, c_q, c_a, c_b, c_P, c_E, c_L, c_G, c_Lp, c_Gp, app_len, SeqAt.shaped, a1]; omega
  have s2 : SeqAt.shaped (tmD u).py = true := by simp [evSs, evS, evE, evEs, evB, evC, evO, evP, evI, callD, argSl, argSls, bors, wb, frz, frzs, sees, R.see, lockS, unlockS, asgR, retR, setD, asgT, unlockO, backA, endF, nIf, nIfs, isAnd, truD, RD.r, binO, binD, cmpR, cmpO, isVl, cmpD, biO, biD, ixD, Mn.Loc, keyD, keyD0, meD, recv, gtD, apD, isObj, runC, evF, tyN, ↓evS_fr, ↓evS_frt, ↓evE_lc, L2.atI, L2.ixN, big, asgS_if, nl_un, nl_val, nl_own, q_pp, q_ep, q_ee, q_lp, q_gp, q_le, q_ge, q_ll, q_gl, eq_ii, wd_f, wd_t, n_pe, n_pl, n_pg, n_ep, n_el, n_eg, n_lp, n_le, n_lg, n_gp, n_ge, n_gl, k_p, k_e, k_l, k_g, j_p, j_e, j_l, j_g, putD, strsR, catS, fmtD, c_p, c_q, c_a, c_b, c_P, c_E, c_L, c_G, c_Lp, c_Gp, app_len, SeqAt.shaped, b1]; omega
  have e : PyData.eqv (tmD t).py (tmD u).py = (wr t == wr u) := by
    by_cases q : t = u
    · rw [(eqvT t u).mpr q, q]
      simp [evSs, evS, evE, evEs, evB, evC, evO, evP, evI, callD, argSl, argSls, bors, wb, frz, frzs, sees, R.see, lockS, unlockS, asgR, retR, setD, asgT, unlockO, backA, endF, nIf, nIfs, isAnd, truD, RD.r, binO, binD, cmpR, cmpO, isVl, cmpD, biO, biD, ixD, Mn.Loc, keyD, keyD0, meD, recv, gtD, apD, isObj, runC, evF, tyN, ↓evS_fr, ↓evS_frt, ↓evE_lc, L2.atI, L2.ixN, big, asgS_if, nl_un, nl_val, nl_own, q_pp, q_ep, q_ee, q_lp, q_gp, q_le, q_ge, q_ll, q_gl, eq_ii, wd_f, wd_t, n_pe, n_pl, n_pg, n_ep, n_el, n_eg, n_lp, n_le, n_lg, n_gp, n_ge, n_gl, k_p, k_e, k_l, k_g, j_p, j_e, j_l, j_g, putD, strsR, catS, fmtD, c_p, c_q, c_a, c_b, c_P, c_E, c_L, c_G, c_Lp, c_Gp, app_len]
    · have n1 : PyData.eqv (tmD t).py (tmD u).py = false := by
        cases z : PyData.eqv (tmD t).py (tmD u).py with
        | false => rfl
        | true => exact absurd ((eqvT t u).mp z) q
      rw [n1]
      symm
      rw [beq_eq_false_iff_ne]
      exact fun z => q (wr_eq ht hu z)
  unfold eqD
  rw [eqOkT, eqOkT, s1, s2, e]
  rfl
end K13

-- P13i
set_option Elab.async false
set_option linter.all false
set_option maxRecDepth 100000
set_option maxHeartbeats 4000000
set_option autoImplicit false
namespace K13
open PySem Mn
theorem ob_t (t : Tm) : isObj (obD t) = true := by cases t <;> (simp only [obD]; rfl)
theorem obD_n (t : Tm) : ∃ fs, obD t = .obj (cN t) fs := by
  cases t with
  | pl x => exact ⟨_, rfl⟩
  | en x => exact ⟨_, rfl⟩
  | nd g ps => exact ⟨_, rfl⟩
theorem mth_of (m : Str) (f : Nat) (h : ∀ C ∈ ([Str.ofString "Place", Str.ofString "End", Str.ofString "Lesser", Str.ofString "Greater"] : List Str), gd.mth.lookup (C, m) = some f) (t : Tm) : gd.mth.lookup (cN t, m) = some f := by
  cases t with
  | pl x => exact h _ (by simp [evSs, evS, evE, evEs, evB, evC, evO, evP, evI, callD, argSl, argSls, bors, wb, frz, frzs, sees, R.see, lockS, unlockS, asgR, retR, setD, asgT, unlockO, backA, endF, nIf, nIfs, isAnd, truD, RD.r, binO, binD, cmpR, cmpO, isVl, cmpD, biO, biD, ixD, Mn.Loc, keyD, keyD0, meD, recv, gtD, apD, isObj, runC, evF, tyN, ↓evS_fr, ↓evS_frt, ↓evE_lc, L2.atI, L2.ixN, big, asgS_if, nl_un, nl_val, nl_own, q_pp, q_ep, q_ee, q_lp, q_gp, q_le, q_ge, q_ll, q_gl, eq_ii, wd_f, wd_t, n_pe, n_pl, n_pg, n_ep, n_el, n_eg, n_lp, n_le, n_lg, n_gp, n_ge, n_gl, k_p, k_e, k_l, k_g, j_p, j_e, j_l, j_g, putD, strsR, catS, fmtD, c_p, c_q, c_a, c_b, c_P, c_E, c_L, c_G, c_Lp, c_Gp, app_len, cN])
  | en x => exact h _ (by simp [evSs, evS, evE, evEs, evB, evC, evO, evP, evI, callD, argSl, argSls, bors, wb, frz, frzs, sees, R.see, lockS, unlockS, asgR, retR, setD, asgT, unlockO, backA, endF, nIf, nIfs, isAnd, truD, RD.r, binO, binD, cmpR, cmpO, isVl, cmpD, biO, biD, ixD, Mn.Loc, keyD, keyD0, meD, recv, gtD, apD, isObj, runC, evF, tyN, ↓evS_fr, ↓evS_frt, ↓evE_lc, L2.atI, L2.ixN, big, asgS_if, nl_un, nl_val, nl_own, q_pp, q_ep, q_ee, q_lp, q_gp, q_le, q_ge, q_ll, q_gl, eq_ii, wd_f, wd_t, n_pe, n_pl, n_pg, n_ep, n_el, n_eg, n_lp, n_le, n_lg, n_gp, n_ge, n_gl, k_p, k_e, k_l, k_g, j_p, j_e, j_l, j_g, putD, strsR, catS, fmtD, c_p, c_q, c_a, c_b, c_P, c_E, c_L, c_G, c_Lp, c_Gp, app_len, cN])
  | nd g ps => cases g <;> exact h _ (by simp [evSs, evS, evE, evEs, evB, evC, evO, evP, evI, callD, argSl, argSls, bors, wb, frz, frzs, sees, R.see, lockS, unlockS, asgR, retR, setD, asgT, unlockO, backA, endF, nIf, nIfs, isAnd, truD, RD.r, binO, binD, cmpR, cmpO, isVl, cmpD, biO, biD, ixD, Mn.Loc, keyD, keyD0, meD, recv, gtD, apD, isObj, runC, evF, tyN, ↓evS_fr, ↓evS_frt, ↓evE_lc, L2.atI, L2.ixN, big, asgS_if, nl_un, nl_val, nl_own, q_pp, q_ep, q_ee, q_lp, q_gp, q_le, q_ge, q_ll, q_gl, eq_ii, wd_f, wd_t, n_pe, n_pl, n_pg, n_ep, n_el, n_eg, n_lp, n_le, n_lg, n_gp, n_ge, n_gl, k_p, k_e, k_l, k_g, j_p, j_e, j_l, j_g, putD, strsR, catS, fmtD, c_p, c_q, c_a, c_b, c_P, c_E, c_L, c_G, c_Lp, c_Gp, app_len, cN])
theorem m_and (t : Tm) : gd.mth.lookup (cN t, (Str.ofString "__and__")) = some 25 := mth_of _ _ (by decide +kernel) t
theorem m_or (t : Tm) : gd.mth.lookup (cN t, (Str.ofString "__or__")) = some 26 := mth_of _ _ (by decide +kernel) t
theorem m_str (t : Tm) : gd.mth.lookup (cN t, (Str.ofString "__str__")) = some 27 := mth_of _ _ (by decide +kernel) t
theorem m_repr (t : Tm) : gd.mth.lookup (cN t, (Str.ofString "__repr__")) = some 28 := mth_of _ _ (by decide +kernel) t
theorem m_eq (t : Tm) : gd.mth.lookup (cN t, (Str.ofString "__eq__")) = some 29 := mth_of _ _ (by decide +kernel) t
theorem own1_t (cf : Nat → List Sl → Option CO) {m : Str} {f : Nat} {t : Tm} {d : D} {ps : List Sl} (h : gd.mth.lookup (cN t, m) = some f) (e : cf f [.val (obD t)] = some (.ret (.val d) ps)) : own1 cf gd m (obD t) = some d := by
  obtain ⟨fs, q⟩ := obD_n t
  rw [q] at e ⊢
  simp only [own1, h, e]
theorem own2_t (cf : Nat → List Sl → Option CO) {m : Str} {f : Nat} {t : Tm} {y d : D} {ps : List Sl} (h : gd.mth.lookup (cN t, m) = some f) (e : cf f [.val (obD t), .val y] = some (.ret (.val d) ps)) : own2 cf gd m (obD t) y = some d := by
  obtain ⟨fs, q⟩ := obD_n t
  rw [q] at e ⊢
  simp only [own2, h, e]
theorem hasM_t {m : Str} {f : Nat} {t : Tm} (h : gd.mth.lookup (cN t, m) = some f) : hasM gd m (obD t) = true := by
  obtain ⟨fs, q⟩ := obD_n t
  rw [q]
  simp only [hasM, h, Option.isSome]
section
variable {t u : Tm}
theorem r_str (ht : Wf t) (dt : dep t ≤ 5) {n : Nat} (hn : dep t + 2 ≤ n) : biO (rn n) gd .str [obD t] = some (.val (.str (txt t))) := by
  obtain ⟨k, rfl⟩ : ∃ k, n = k + 1 := ⟨n - 1, by omega⟩
  have e : rn (k+1) 27 [.val (obD t)] = some (.ret (.val (.str (txt t))) [.val (obD t)]) := by
    simp [evSs, evS, evE, evEs, evB, evC, evO, evP, evI, callD, argSl, argSls, bors, wb, frz, frzs, sees, R.see, lockS, unlockS, asgR, retR, setD, asgT, unlockO, backA, endF, nIf, nIfs, isAnd, truD, RD.r, binO, binD, cmpR, cmpO, isVl, cmpD, biO, biD, ixD, Mn.Loc, keyD, keyD0, meD, recv, gtD, apD, isObj, runC, evF, tyN, ↓evS_fr, ↓evS_frt, ↓evE_lc, L2.atI, L2.ixN, big, asgS_if, nl_un, nl_val, nl_own, q_pp, q_ep, q_ee, q_lp, q_gp, q_le, q_ge, q_ll, q_gl, eq_ii, wd_f, wd_t, n_pe, n_pl, n_pg, n_ep, n_el, n_eg, n_lp, n_le, n_lg, n_gp, n_ge, n_gl, k_p, k_e, k_l, k_g, j_p, j_e, j_l, j_g, putD, strsR, catS, fmtD, c_p, c_q, c_a, c_b, c_P, c_E, c_L, c_G, c_Lp, c_Gp, app_len, fn27, b20m8, obj_text ht dt k (by omega)]
  simp only [biO, ob_t, if_true, own1_t _ (m_str t) e, strO]
theorem r_rep (ht : Wf t) (dt : dep t ≤ 5) {n : Nat} (hn : dep t + 2 ≤ n) : biO (rn n) gd .repr [obD t] = some (.val (.str (wr t))) := by
  obtain ⟨k, rfl⟩ : ∃ k, n = k + 1 := ⟨n - 1, by omega⟩
  have e : rn (k+1) 28 [.val (obD t)] = some (.ret (.val (.str (wr t))) [.val (obD t)]) := by
    simp [evSs, evS, evE, evEs, evB, evC, evO, evP, evI, callD, argSl, argSls, bors, wb, frz, frzs, sees, R.see, lockS, unlockS, asgR, retR, setD, asgT, unlockO, backA, endF, nIf, nIfs, isAnd, truD, RD.r, binO, binD, cmpR, cmpO, isVl, cmpD, biO, biD, ixD, Mn.Loc, keyD, keyD0, meD, recv, gtD, apD, isObj, runC, evF, tyN, ↓evS_fr, ↓evS_frt, ↓evE_lc, L2.atI, L2.ixN, big, asgS_if, nl_un, nl_val, nl_own, q_pp, q_ep, q_ee, q_lp, q_gp, q_le, q_ge, q_ll, q_gl, eq_ii, wd_f, wd_t, n_pe, n_pl, n_pg, n_ep, n_el, n_eg, n_lp, n_le, n_lg, n_gp, n_ge, n_gl, k_p, k_e, k_l, k_g, j_p, j_e, j_l, j_g, putD, strsR, catS, fmtD, c_p, c_q, c_a, c_b, c_P, c_E, c_L, c_G, c_Lp, c_Gp, app_len, fn28, b20m9, obj_repr ht dt k (by omega)]
  simp only [biO, ob_t, if_true, own1_t _ (m_repr t) e, strO]
theorem r_eq (ht : Wf t) (dt : dep t ≤ 5) (hu : Wf u) (du : dep u ≤ 5) {n : Nat} (hn : dep t + 2 ≤ n) (hn2 : dep u + 2 ≤ n) : eqO (rn n) gd (obD t) (obD u) = some (wr t == wr u) := by
  obtain ⟨k, rfl⟩ : ∃ k, n = k + 1 := ⟨n - 1, by omega⟩
  have e : rn (k+1) 29 [.val (obD t), .val (obD u)] = some (.ret (.val (.bl (wr t == wr u))) [.val (obD t), .val (obD u)]) := by
    simp [evSs, evS, evE, evEs, evB, evC, evO, evP, evI, callD, argSl, argSls, bors, wb, frz, frzs, sees, R.see, lockS, unlockS, asgR, retR, setD, asgT, unlockO, backA, endF, nIf, nIfs, isAnd, truD, RD.r, binO, binD, cmpR, cmpO, isVl, cmpD, biO, biD, ixD, Mn.Loc, keyD, keyD0, meD, recv, gtD, apD, isObj, runC, evF, tyN, ↓evS_fr, ↓evS_frt, ↓evE_lc, L2.atI, L2.ixN, big, asgS_if, nl_un, nl_val, nl_own, q_pp, q_ep, q_ee, q_lp, q_gp, q_le, q_ge, q_ll, q_gl, eq_ii, wd_f, wd_t, n_pe, n_pl, n_pg, n_ep, n_el, n_eg, n_lp, n_le, n_lg, n_gp, n_ge, n_gl, k_p, k_e, k_l, k_g, j_p, j_e, j_l, j_g, putD, strsR, catS, fmtD, c_p, c_q, c_a, c_b, c_P, c_E, c_L, c_G, c_Lp, c_Gp, app_len, fn29, b20m10, isc0, obj_repr ht dt k (by omega), obj_repr hu du k (by omega), eq_ss (oks ht).2 (oks hu).2]
  unfold eqO
  rw [hasM_t (m_eq u), Bool.or_true, if_pos rfl, own2_t _ (m_eq t) e]
theorem r_no (t : Tm) {d : D} (h1 : (tyN d).isSome = true) (h2 : iscD gd 0 d = some false) (n : Nat) : eqO (rn (n+1)) gd (obD t) d = some false := by
  have e : rn (n+1) 29 [.val (obD t), .val d] = some (.ret (.val (.bl false)) [.val (obD t), .val d]) := by
    simp [evSs, evS, evE, evEs, evB, evC, evO, evP, evI, callD, argSl, argSls, bors, wb, frz, frzs, sees, R.see, lockS, unlockS, asgR, retR, setD, asgT, unlockO, backA, endF, nIf, nIfs, isAnd, truD, RD.r, binO, binD, cmpR, cmpO, isVl, cmpD, biO, biD, ixD, Mn.Loc, keyD, keyD0, meD, recv, gtD, apD, isObj, runC, evF, tyN, ↓evS_fr, ↓evS_frt, ↓evE_lc, L2.atI, L2.ixN, big, asgS_if, nl_un, nl_val, nl_own, q_pp, q_ep, q_ee, q_lp, q_gp, q_le, q_ge, q_ll, q_gl, eq_ii, wd_f, wd_t, n_pe, n_pl, n_pg, n_ep, n_el, n_eg, n_lp, n_le, n_lg, n_gp, n_ge, n_gl, k_p, k_e, k_l, k_g, j_p, j_e, j_l, j_g, putD, strsR, catS, fmtD, c_p, c_q, c_a, c_b, c_P, c_E, c_L, c_G, c_Lp, c_Gp, app_len, fn29, b20m10, h2]
  unfold eqO
  rw [h1, Bool.true_or, if_pos rfl, own2_t _ (m_eq t) e]
theorem r_and (t u : Tm) (k : Nat) : binO (rn (k+5)) gd .BitAnd (obD t) (obD u) = some (.val (obD (.nd false [t, u]))) := by
  have e0 := mk_nd k false (ts := [t, u]) (by simp [evSs, evS, evE, evEs, evB, evC, evO, evP, evI, callD, argSl, argSls, bors, wb, frz, frzs, sees, R.see, lockS, unlockS, asgR, retR, setD, asgT, unlockO, backA, endF, nIf, nIfs, isAnd, truD, RD.r, binO, binD, cmpR, cmpO, isVl, cmpD, biO, biD, ixD, Mn.Loc, keyD, keyD0, meD, recv, gtD, apD, isObj, runC, evF, tyN, ↓evS_fr, ↓evS_frt, ↓evE_lc, L2.atI, L2.ixN, big, asgS_if, nl_un, nl_val, nl_own, q_pp, q_ep, q_ee, q_lp, q_gp, q_le, q_ge, q_ll, q_gl, eq_ii, wd_f, wd_t, n_pe, n_pl, n_pg, n_ep, n_el, n_eg, n_lp, n_le, n_lg, n_gp, n_ge, n_gl, k_p, k_e, k_l, k_g, j_p, j_e, j_l, j_g, putD, strsR, catS, fmtD, c_p, c_q, c_a, c_b, c_P, c_E, c_L, c_G, c_Lp, c_Gp, app_len]) (by simp [evSs, evS, evE, evEs, evB, evC, evO, evP, evI, callD, argSl, argSls, bors, wb, frz, frzs, sees, R.see, lockS, unlockS, asgR, retR, setD, asgT, unlockO, backA, endF, nIf, nIfs, isAnd, truD, RD.r, binO, binD, cmpR, cmpO, isVl, cmpD, biO, biD, ixD, Mn.Loc, keyD, keyD0, meD, recv, gtD, apD, isObj, runC, evF, tyN, ↓evS_fr, ↓evS_frt, ↓evE_lc, L2.atI, L2.ixN, big, asgS_if, nl_un, nl_val, nl_own, q_pp, q_ep, q_ee, q_lp, q_gp, q_le, q_ge, q_ll, q_gl, eq_ii, wd_f, wd_t, n_pe, n_pl, n_pg, n_ep, n_el, n_eg, n_lp, n_le, n_lg, n_gp, n_ge, n_gl, k_p, k_e, k_l, k_g, j_p, j_e, j_l, j_g, putD, strsR, catS, fmtD, c_p, c_q, c_a, c_b, c_P, c_E, c_L, c_G, c_Lp, c_Gp, app_len])
  simp [evSs, evS, evE, evEs, evB, evC, evO, evP, evI, callD, argSl, argSls, bors, wb, frz, frzs, sees, R.see, lockS, unlockS, asgR, retR, setD, asgT, unlockO, backA, endF, nIf, nIfs, isAnd, truD, RD.r, binO, binD, cmpR, cmpO, isVl, cmpD, biO, biD, ixD, Mn.Loc, keyD, keyD0, meD, recv, gtD, apD, isObj, runC, evF, tyN, ↓evS_fr, ↓evS_frt, ↓evE_lc, L2.atI, L2.ixN, big, asgS_if, nl_un, nl_val, nl_own, q_pp, q_ep, q_ee, q_lp, q_gp, q_le, q_ge, q_ll, q_gl, eq_ii, wd_f, wd_t, n_pe, n_pl, n_pg, n_ep, n_el, n_eg, n_lp, n_le, n_lg, n_gp, n_ge, n_gl, k_p, k_e, k_l, k_g, j_p, j_e, j_l, j_g, putD, strsR, catS, fmtD, c_p, c_q, c_a, c_b, c_P, c_E, c_L, c_G, c_Lp, c_Gp, app_len] at e0
  have e : rn (k+5) 25 [.val (obD t), .val (obD u)] = some (.ret (.val (obD (.nd false [t, u]))) [.val (obD t), .val (obD u)]) := by
    simp [evSs, evS, evE, evEs, evB, evC, evO, evP, evI, callD, argSl, argSls, bors, wb, frz, frzs, sees, R.see, lockS, unlockS, asgR, retR, setD, asgT, unlockO, backA, endF, nIf, nIfs, isAnd, truD, RD.r, binO, binD, cmpR, cmpO, isVl, cmpD, biO, biD, ixD, Mn.Loc, keyD, keyD0, meD, recv, gtD, apD, isObj, runC, evF, tyN, ↓evS_fr, ↓evS_frt, ↓evE_lc, L2.atI, L2.ixN, big, asgS_if, nl_un, nl_val, nl_own, q_pp, q_ep, q_ee, q_lp, q_gp, q_le, q_ge, q_ll, q_gl, eq_ii, wd_f, wd_t, n_pe, n_pl, n_pg, n_ep, n_el, n_eg, n_lp, n_le, n_lg, n_gp, n_ge, n_gl, k_p, k_e, k_l, k_g, j_p, j_e, j_l, j_g, putD, strsR, catS, fmtD, c_p, c_q, c_a, c_b, c_P, c_E, c_L, c_G, c_Lp, c_Gp, app_len, fn25, b20m6, want_term, e0]
  unfold binO
  rw [ob_t, if_pos rfl]
  simp only [isAO, opNm, hasM_t (m_and u), Bool.and_self, if_true, own2_t _ (m_and t) e, Option.map]
theorem r_or (t u : Tm) (k : Nat) : binO (rn (k+5)) gd .BitOr (obD t) (obD u) = some (.val (obD (.nd true [t, u]))) := by
  have e0 := mk_nd k true (ts := [t, u]) (by simp [evSs, evS, evE, evEs, evB, evC, evO, evP, evI, callD, argSl, argSls, bors, wb, frz, frzs, sees, R.see, lockS, unlockS, asgR, retR, setD, asgT, unlockO, backA, endF, nIf, nIfs, isAnd, truD, RD.r, binO, binD, cmpR, cmpO, isVl, cmpD, biO, biD, ixD, Mn.Loc, keyD, keyD0, meD, recv, gtD, apD, isObj, runC, evF, tyN, ↓evS_fr, ↓evS_frt, ↓evE_lc, L2.atI, L2.ixN, big, asgS_if, nl_un, nl_val, nl_own, q_pp, q_ep, q_ee, q_lp, q_gp, q_le, q_ge, q_ll, q_gl, eq_ii, wd_f, wd_t, n_pe, n_pl, n_pg, n_ep, n_el, n_eg, n_lp, n_le, n_lg, n_gp, n_ge, n_gl, k_p, k_e, k_l, k_g, j_p, j_e, j_l, j_g, putD, strsR, catS, fmtD, c_p, c_q, c_a, c_b, c_P, c_E, c_L, c_G, c_Lp, c_Gp, app_len]) (by simp [evSs, evS, evE, evEs, evB, evC, evO, evP, evI, callD, argSl, argSls, bors, wb, frz, frzs, sees, R.see, lockS, unlockS, asgR, retR, setD, asgT, unlockO, backA, endF, nIf, nIfs, isAnd, truD, RD.r, binO, binD, cmpR, cmpO, isVl, cmpD, biO, biD, ixD, Mn.Loc, keyD, keyD0, meD, recv, gtD, apD, isObj, runC, evF, tyN, ↓evS_fr, ↓evS_frt, ↓evE_lc, L2.atI, L2.ixN, big, asgS_if, nl_un, nl_val, nl_own, q_pp, q_ep, q_ee, q_lp, q_gp, q_le, q_ge, q_ll, q_gl, eq_ii, wd_f, wd_t, n_pe, n_pl, n_pg, n_ep, n_el, n_eg, n_lp, n_le, n_lg, n_gp, n_ge, n_gl, k_p, k_e, k_l, k_g, j_p, j_e, j_l, j_g, putD, strsR, catS, fmtD, c_p, c_q, c_a, c_b, c_P, c_E, c_L, c_G, c_Lp, c_Gp, app_len])
  simp [evSs, evS, evE, evEs, evB, evC, evO, evP, evI, callD, argSl, argSls, bors, wb, frz, frzs, sees, R.see, lockS, unlockS, asgR, retR, setD, asgT, unlockO, backA, endF, nIf, nIfs, isAnd, truD, RD.r, binO, binD, cmpR, cmpO, isVl, cmpD, biO, biD, ixD, Mn.Loc, keyD, keyD0, meD, recv, gtD, apD, isObj, runC, evF, tyN, ↓evS_fr, ↓evS_frt, ↓evE_lc, L2.atI, L2.ixN, big, asgS_if, nl_un, nl_val, nl_own, q_pp, q_ep, q_ee, q_lp, q_gp, q_le, q_ge, q_ll, q_gl, eq_ii, wd_f, wd_t, n_pe, n_pl, n_pg, n_ep, n_el, n_eg, n_lp, n_le, n_lg, n_gp, n_ge, n_gl, k_p, k_e, k_l, k_g, j_p, j_e, j_l, j_g, putD, strsR, catS, fmtD, c_p, c_q, c_a, c_b, c_P, c_E, c_L, c_G, c_Lp, c_Gp, app_len] at e0
  have e : rn (k+5) 26 [.val (obD t), .val (obD u)] = some (.ret (.val (obD (.nd true [t, u]))) [.val (obD t), .val (obD u)]) := by
    simp [evSs, evS, evE, evEs, evB, evC, evO, evP, evI, callD, argSl, argSls, bors, wb, frz, frzs, sees, R.see, lockS, unlockS, asgR, retR, setD, asgT, unlockO, backA, endF, nIf, nIfs, isAnd, truD, RD.r, binO, binD, cmpR, cmpO, isVl, cmpD, biO, biD, ixD, Mn.Loc, keyD, keyD0, meD, recv, gtD, apD, isObj, runC, evF, tyN, ↓evS_fr, ↓evS_frt, ↓evE_lc, L2.atI, L2.ixN, big, asgS_if, nl_un, nl_val, nl_own, q_pp, q_ep, q_ee, q_lp, q_gp, q_le, q_ge, q_ll, q_gl, eq_ii, wd_f, wd_t, n_pe, n_pl, n_pg, n_ep, n_el, n_eg, n_lp, n_le, n_lg, n_gp, n_ge, n_gl, k_p, k_e, k_l, k_g, j_p, j_e, j_l, j_g, putD, strsR, catS, fmtD, c_p, c_q, c_a, c_b, c_P, c_E, c_L, c_G, c_Lp, c_Gp, app_len, fn26, b20m7, want_term, e0]
  unfold binO
  rw [ob_t, if_pos rfl]
  simp only [isAO, opNm, hasM_t (m_or u), Bool.and_self, if_true, own2_t _ (m_or t) e, Option.map]
end
end K13

-- P13j
set_option Elab.async false
set_option linter.all false
set_option maxRecDepth 100000
set_option maxHeartbeats 4000000
set_option autoImplicit false
namespace K13
open PySem Mn
/-! the pot -/
structure Pot where
  a : Int
  b : Int
  ha : 0 ≤ a
  hb : 0 ≤ b
  hb2 : b < 2147483648
def Pot.w (p : Pot) : List D := [.int p.a, .int p.b]
def nb (p : Pot) : Int := (p.b * 48271 + 11213) % 2147483587
def dv (p : Pot) (m : Int) : Int := if 0 < p.a then p.a % m else (nb p * nb p) % 2147483549 / 13 % m
def dn (p : Pot) (m : Int) : Pot := if h : 0 < p.a ∧ 0 < m then ⟨p.a / m, p.b, Int.ediv_nonneg p.ha (by omega), p.hb, p.hb2⟩ else ⟨p.a, nb p, p.ha, by unfold nb; omega, by unfold nb; omega⟩
theorem dv_r (p : Pot) {m : Int} (h : 0 < m) : 0 ≤ dv p m ∧ dv p m < m := by
  unfold dv
  split
  · exact ⟨Int.emod_nonneg _ (by omega), Int.emod_lt_of_pos _ h⟩
  · exact ⟨Int.emod_nonneg _ (by omega), Int.emod_lt_of_pos _ h⟩
theorem draw (k : Nat) (p : Pot) {m : Int} (h : 0 < m) (h2 : m < 1073741824) : rn (k+1) 8 [.own p.w, .val (.int m)] = some (.ret (.val (.int (dv p m))) [.own (dn p m).w, .val (.int m)]) := by
  have := p.hb
  have := p.hb2
  by_cases q : 0 < p.a
  · simp [evSs, evS, evE, evEs, evB, evC, evO, evP, evI, callD, argSl, argSls, bors, wb, frz, frzs, sees, R.see, lockS, unlockS, asgR, retR, setD, asgT, unlockO, backA, endF, nIf, nIfs, isAnd, truD, RD.r, binO, binD, cmpR, cmpO, isVl, cmpD, biO, biD, ixD, Mn.Loc, keyD, keyD0, meD, recv, gtD, apD, isObj, runC, evF, tyN, ↓evS_fr, ↓evS_frt, ↓evE_lc, L2.atI, L2.ixN, big, asgS_if, nl_un, nl_val, nl_own, q_pp, q_ep, q_ee, q_lp, q_gp, q_le, q_ge, q_ll, q_gl, eq_ii, wd_f, wd_t, n_pe, n_pl, n_pg, n_ep, n_el, n_eg, n_lp, n_le, n_lg, n_gp, n_ge, n_gl, k_p, k_e, k_l, k_g, j_p, j_e, j_l, j_g, putD, fn8, b27, Pot.w, q, h, h2, dv, dn]
  · have b0 : 0 ≤ nb p := by unfold nb; omega
    have b1 : nb p < 2147483648 := by unfold nb; omega
    have c1 : -18446744073709551616 < p.b := by omega
    have c2 : p.b < 18446744073709551616 := by omega
    have c3 : -18446744073709551616 < nb p := by omega
    have c4 : nb p < 18446744073709551616 := by omega
    have e : nb p = (p.b * 48271 + 11213) % 2147483587 := rfl
    simp [evSs, evS, evE, evEs, evB, evC, evO, evP, evI, callD, argSl, argSls, bors, wb, frz, frzs, sees, R.see, lockS, unlockS, asgR, retR, setD, asgT, unlockO, backA, endF, nIf, nIfs, isAnd, truD, RD.r, binO, binD, cmpR, cmpO, isVl, cmpD, biO, biD, ixD, Mn.Loc, keyD, keyD0, meD, recv, gtD, apD, isObj, runC, evF, tyN, ↓evS_fr, ↓evS_frt, ↓evE_lc, L2.atI, L2.ixN, big, asgS_if, nl_un, nl_val, nl_own, q_pp, q_ep, q_ee, q_lp, q_gp, q_le, q_ge, q_ll, q_gl, eq_ii, wd_f, wd_t, n_pe, n_pl, n_pg, n_ep, n_el, n_eg, n_lp, n_le, n_lg, n_gp, n_ge, n_gl, k_p, k_e, k_l, k_g, j_p, j_e, j_l, j_g, putD, fn8, b27, Pot.w, q, h, h2, dv, dn, c1, c2, c3, c4, ← e]
theorem pick (k : Nat) (p : Pot) {xs : List D} (h : xs ≠ []) (h2 : xs.length < 1073741824) : ∃ x ∈ xs, rn (k+2) 9 [.own p.w, .own xs] = some (.ret (.val x) [.own (dn p xs.length).w, .own xs]) := by
  have l : 0 < xs.length := List.length_pos_iff.mpr h
  have l1 : (0 : Int) < xs.length := by omega
  have l2 : (xs.length : Int) < 1073741824 := by omega
  obtain ⟨r1, r2⟩ := dv_r p l1
  have l3 : (dv p xs.length).toNat < xs.length := by omega
  refine ⟨xs[(dv p xs.length).toNat], List.getElem_mem l3, ?_⟩
  simp [evSs, evS, evE, evEs, evB, evC, evO, evP, evI, callD, argSl, argSls, bors, wb, frz, frzs, sees, R.see, lockS, unlockS, asgR, retR, setD, asgT, unlockO, backA, endF, nIf, nIfs, isAnd, truD, RD.r, binO, binD, cmpR, cmpO, isVl, cmpD, biO, biD, ixD, Mn.Loc, keyD, keyD0, meD, recv, gtD, apD, isObj, runC, evF, tyN, ↓evS_fr, ↓evS_frt, ↓evE_lc, L2.atI, L2.ixN, big, asgS_if, nl_un, nl_val, nl_own, q_pp, q_ep, q_ee, q_lp, q_gp, q_le, q_ge, q_ll, q_gl, eq_ii, wd_f, wd_t, n_pe, n_pl, n_pg, n_ep, n_el, n_eg, n_lp, n_le, n_lg, n_gp, n_ge, n_gl, k_p, k_e, k_l, k_g, j_p, j_e, j_l, j_g, putD, fn9, b28, draw k p l1 l2, r1, r2, List.getElem?_eq_getElem l3]
def pot0 (c k : Int) (h : 0 ≤ k) : Pot := ⟨if (if c < 0 then -c else c) - 1000000000000000000 > 0 then (if c < 0 then -c else c) - 1000000000000000000 else 0, ((if c < 0 then -c else c) % 2147483549 + 3) * (2 * k + 5) ^ 3 % 2147483477 + 1, by split <;> omega, by omega, by omega⟩
theorem pot (j : Nat) {ns : List Int} {k : Int} (h0 : 0 ≤ k) (h1 : k < 5) : ∃ p : Pot, rn (j+1) 7 [.val (.rol (ns.map D.int)), .val (.int k)] = some (.ret (.new p.w) [.val (.rol (ns.map D.int)), .val (.int k)]) := by
  have c1 : -18446744073709551616 < k := by omega
  have c2 : k < 18446744073709551616 := by omega
  have c3 : (2 * k + 5).natAbs < 18446744073709551616 := by omega
  by_cases q : k < ns.length
  · have q2 : k.toNat < ns.length := by omega
    refine ⟨pot0 (ns[k.toNat]) k h0, ?_⟩
    have m0 : 0 ≤ (if ns[k.toNat] < 0 then -ns[k.toNat] else ns[k.toNat]) % 2147483549 := by omega
    have m1 : (if ns[k.toNat] < 0 then -ns[k.toNat] else ns[k.toNat]) % 2147483549 < 2147483549 := by omega
    have m2 : -18446744073709551616 < (if ns[k.toNat] < 0 then -ns[k.toNat] else ns[k.toNat]) % 2147483549 + 3 := by omega
    have m3 : (if ns[k.toNat] < 0 then -ns[k.toNat] else ns[k.toNat]) % 2147483549 + 3 < 18446744073709551616 := by omega
    simp [evSs, evS, evE, evEs, evB, evC, evO, evP, evI, callD, argSl, argSls, bors, wb, frz, frzs, sees, R.see, lockS, unlockS, asgR, retR, setD, asgT, unlockO, backA, endF, nIf, nIfs, isAnd, truD, RD.r, binO, binD, cmpR, cmpO, isVl, cmpD, biO, biD, ixD, Mn.Loc, keyD, keyD0, meD, recv, gtD, apD, isObj, runC, evF, tyN, ↓evS_fr, ↓evS_frt, ↓evE_lc, L2.atI, L2.ixN, big, asgS_if, nl_un, nl_val, nl_own, q_pp, q_ep, q_ee, q_lp, q_gp, q_le, q_ge, q_ll, q_gl, eq_ii, wd_f, wd_t, n_pe, n_pl, n_pg, n_ep, n_el, n_eg, n_lp, n_le, n_lg, n_gp, n_ge, n_gl, k_p, k_e, k_l, k_g, j_p, j_e, j_l, j_g, putD, fn7, b26, c1, c2, c3, q, h0, q2, m2, m3, Pot.w, pot0]
  · refine ⟨pot0 (23 * k + 9) k h0, ?_⟩
    have m2 : -18446744073709551616 < (if 23 * k + 9 < 0 then -(23 * k + 9) else 23 * k + 9) % 2147483549 + 3 := by omega
    have m3 : (if 23 * k + 9 < 0 then -(23 * k + 9) else 23 * k + 9) % 2147483549 + 3 < 18446744073709551616 := by omega
    simp [evSs, evS, evE, evEs, evB, evC, evO, evP, evI, callD, argSl, argSls, bors, wb, frz, frzs, sees, R.see, lockS, unlockS, asgR, retR, setD, asgT, unlockO, backA, endF, nIf, nIfs, isAnd, truD, RD.r, binO, binD, cmpR, cmpO, isVl, cmpD, biO, biD, ixD, Mn.Loc, keyD, keyD0, meD, recv, gtD, apD, isObj, runC, evF, tyN, ↓evS_fr, ↓evS_frt, ↓evE_lc, L2.atI, L2.ixN, big, asgS_if, nl_un, nl_val, nl_own, q_pp, q_ep, q_ee, q_lp, q_gp, q_le, q_ge, q_ll, q_gl, eq_ii, wd_f, wd_t, n_pe, n_pl, n_pg, n_ep, n_el, n_eg, n_lp, n_le, n_lg, n_gp, n_ge, n_gl, k_p, k_e, k_l, k_g, j_p, j_e, j_l, j_g, putD, fn7, b26, c1, c2, c3, q, h0, m2, m3, Pot.w, pot0]
/-- a comprehension that changes what else stands in the frame -/
theorem lcP {α σ : Type} {fe : List Sl → Option EO} {fc : List Sl → Option (Bool × List Sl)} {x : Nat} (S : σ → Sl → List Sl) (hS : ∀ c s d, (S c s).set x (.val d) = S c (.val d)) (F : α → D) (Q : α → Prop) (I : Nat → σ → Prop) (hc : ∀ c d, fc (S c (.val d)) = some (true, S c (.val d)))
    (he : ∀ n c d, I (n+1) c → ∃ t c', Q t ∧ I n c' ∧ fe (S c (.val d)) = some (.ok (.val (F t)) (S c' (.val d)))) : ∀ (xs : List D) (acc : List D) (c : σ) (s : Sl), I xs.length c → acc.length + xs.length ≤ 1000000 →
    ∃ (ts : List α) (c' : σ) (s' : Sl), ts.length = xs.length ∧ (∀ t ∈ ts, Q t) ∧ I 0 c' ∧ lcL fe fc x xs (S c s) acc = some (acc ++ ts.map F, S c' s')
  | [], acc, c, s, hI, _ => ⟨[], c, s, rfl, by simp [evSs, evS, evE, evEs, evB, evC, evO, evP, evI, callD, argSl, argSls, bors, wb, frz, frzs, sees, R.see, lockS, unlockS, asgR, retR, setD, asgT, unlockO, backA, endF, nIf, nIfs, isAnd, truD, RD.r, binO, binD, cmpR, cmpO, isVl, cmpD, biO, biD, ixD, Mn.Loc, keyD, keyD0, meD, recv, gtD, apD, isObj, runC, evF, tyN, ↓evS_fr, ↓evS_frt, ↓evE_lc, L2.atI, L2.ixN, big, asgS_if, nl_un, nl_val, nl_own, q_pp, q_ep, q_ee, q_lp, q_gp, q_le, q_ge, q_ll, q_gl, eq_ii, wd_f, wd_t, n_pe, n_pl, n_pg, n_ep, n_el, n_eg, n_lp, n_le, n_lg, n_gp, n_ge, n_gl, k_p, k_e, k_l, k_g, j_p, j_e, j_l, j_g, putD], hI, by simp [evSs, evS, evE, evEs, evB, evC, evO, evP, evI, callD, argSl, argSls, bors, wb, frz, frzs, sees, R.see, lockS, unlockS, asgR, retR, setD, asgT, unlockO, backA, endF, nIf, nIfs, isAnd, truD, RD.r, binO, binD, cmpR, cmpO, isVl, cmpD, biO, biD, ixD, Mn.Loc, keyD, keyD0, meD, recv, gtD, apD, isObj, runC, evF, tyN, ↓evS_fr, ↓evS_frt, ↓evE_lc, L2.atI, L2.ixN, big, asgS_if, nl_un, nl_val, nl_own, q_pp, q_ep, q_ee, q_lp, q_gp, q_le, q_ge, q_ll, q_gl, eq_ii, wd_f, wd_t, n_pe, n_pl, n_pg, n_ep, n_el, n_eg, n_lp, n_le, n_lg, n_gp, n_ge, n_gl, k_p, k_e, k_l, k_g, j_p, j_e, j_l, j_g, putD, lcL]⟩
  | d :: ds, acc, c, s, hI, hl => by
    obtain ⟨t, c1, hq, hI1, e1⟩ := he ds.length c d hI
    simp [evSs, evS, evE, evEs, evB, evC, evO, evP, evI, callD, argSl, argSls, bors, wb, frz, frzs, sees, R.see, lockS, unlockS, asgR, retR, setD, asgT, unlockO, backA, endF, nIf, nIfs, isAnd, truD, RD.r, binO, binD, cmpR, cmpO, isVl, cmpD, biO, biD, ixD, Mn.Loc, keyD, keyD0, meD, recv, gtD, apD, isObj, runC, evF, tyN, ↓evS_fr, ↓evS_frt, ↓evE_lc, L2.atI, L2.ixN, big, asgS_if, nl_un, nl_val, nl_own, q_pp, q_ep, q_ee, q_lp, q_gp, q_le, q_ge, q_ll, q_gl, eq_ii, wd_f, wd_t, n_pe, n_pl, n_pg, n_ep, n_el, n_eg, n_lp, n_le, n_lg, n_gp, n_ge, n_gl, k_p, k_e, k_l, k_g, j_p, j_e, j_l, j_g, putD] at hl
    obtain ⟨ts, c2, s2, h1, h2, h3, h4⟩ := lcP S hS F Q I hc he ds (acc ++ [F t]) c1 (.val d) hI1 (by simp [evSs, evS, evE, evEs, evB, evC, evO, evP, evI, callD, argSl, argSls, bors, wb, frz, frzs, sees, R.see, lockS, unlockS, asgR, retR, setD, asgT, unlockO, backA, endF, nIf, nIfs, isAnd, truD, RD.r, binO, binD, cmpR, cmpO, isVl, cmpD, biO, biD, ixD, Mn.Loc, keyD, keyD0, meD, recv, gtD, apD, isObj, runC, evF, tyN, ↓evS_fr, ↓evS_frt, ↓evE_lc, L2.atI, L2.ixN, big, asgS_if, nl_un, nl_val, nl_own, q_pp, q_ep, q_ee, q_lp, q_gp, q_le, q_ge, q_ll, q_gl, eq_ii, wd_f, wd_t, n_pe, n_pl, n_pg, n_ep, n_el, n_eg, n_lp, n_le, n_lg, n_gp, n_ge, n_gl, k_p, k_e, k_l, k_g, j_p, j_e, j_l, j_g, putD]; omega)
    have l1 : acc.length < 1000000 := by omega
    refine ⟨t :: ts, c2, s2, by simp [evSs, evS, evE, evEs, evB, evC, evO, evP, evI, callD, argSl, argSls, bors, wb, frz, frzs, sees, R.see, lockS, unlockS, asgR, retR, setD, asgT, unlockO, backA, endF, nIf, nIfs, isAnd, truD, RD.r, binO, binD, cmpR, cmpO, isVl, cmpD, biO, biD, ixD, Mn.Loc, keyD, keyD0, meD, recv, gtD, apD, isObj, runC, evF, tyN, ↓evS_fr, ↓evS_frt, ↓evE_lc, L2.atI, L2.ixN, big, asgS_if, nl_un, nl_val, nl_own, q_pp, q_ep, q_ee, q_lp, q_gp, q_le, q_ge, q_ll, q_gl, eq_ii, wd_f, wd_t, n_pe, n_pl, n_pg, n_ep, n_el, n_eg, n_lp, n_le, n_lg, n_gp, n_ge, n_gl, k_p, k_e, k_l, k_g, j_p, j_e, j_l, j_g, putD, h1], ?_, h3, ?_⟩
    · intro y hy
      rcases List.mem_cons.mp hy with rfl | hy
      · exact hq
      · exact h2 y hy
    · rw [lcL, hS, hc]
      simp only [e1, frz, l1, if_true, big]
      rw [h4]
      simp [evSs, evS, evE, evEs, evB, evC, evO, evP, evI, callD, argSl, argSls, bors, wb, frz, frzs, sees, R.see, lockS, unlockS, asgR, retR, setD, asgT, unlockO, backA, endF, nIf, nIfs, isAnd, truD, RD.r, binO, binD, cmpR, cmpO, isVl, cmpD, biO, biD, ixD, Mn.Loc, keyD, keyD0, meD, recv, gtD, apD, isObj, runC, evF, tyN, ↓evS_fr, ↓evS_frt, ↓evE_lc, L2.atI, L2.ixN, big, asgS_if, nl_un, nl_val, nl_own, q_pp, q_ep, q_ee, q_lp, q_gp, q_le, q_ge, q_ll, q_gl, eq_ii, wd_f, wd_t, n_pe, n_pl, n_pg, n_ep, n_el, n_eg, n_lp, n_le, n_lg, n_gp, n_ge, n_gl, k_p, k_e, k_l, k_g, j_p, j_e, j_l, j_g, putD]
theorem rng_len (lo : Int) (n : Nat) : (rngD lo n).length = n := by simp [evSs, evS, evE, evEs, evB, evC, evO, evP, evI, callD, argSl, argSls, bors, wb, frz, frzs, sees, R.see, lockS, unlockS, asgR, retR, setD, asgT, unlockO, backA, endF, nIf, nIfs, isAnd, truD, RD.r, binO, binD, cmpR, cmpO, isVl, cmpD, biO, biD, ixD, Mn.Loc, keyD, keyD0, meD, recv, gtD, apD, isObj, runC, evF, tyN, ↓evS_fr, ↓evS_frt, ↓evE_lc, L2.atI, L2.ixN, big, asgS_if, nl_un, nl_val, nl_own, q_pp, q_ep, q_ee, q_lp, q_gp, q_le, q_ge, q_ll, q_gl, eq_ii, wd_f, wd_t, n_pe, n_pl, n_pg, n_ep, n_el, n_eg, n_lp, n_le, n_lg, n_gp, n_ge, n_gl, k_p, k_e, k_l, k_g, j_p, j_e, j_l, j_g, putD, rngD]
end K13

-- P13k
set_option Elab.async false
set_option linter.all false
set_option maxRecDepth 100000
set_option maxHeartbeats 4000000
set_option autoImplicit false
namespace K13
open PySem Mn
theorem places (k : Nat) (p : Pot) : ∃ xs : List Str, xs ≠ [] ∧ (∀ x ∈ xs, x ∈ pls) ∧ xs.length ≤ 5 ∧ ∃ p' : Pot, rn (k+2) 10 [.own p.w] = some (.ret (.new (xs.map .str)) [.own p'.w]) := by
  have d0 := draw k p (m := 5) (by decide) (by decide)
  obtain ⟨r0, r1⟩ := dv_r p (m := 5) (by decide)
  have c1 : (-1000000 : Int) ≤ 1 + dv p 5 := by omega
  have c2 : 1 + dv p 5 ≤ (1000000 : Int) := by omega
  simp [evSs, evS, evE, evEs, evB, evC, evO, evP, evI, callD, argSl, argSls, bors, wb, frz, frzs, sees, R.see, lockS, unlockS, asgR, retR, setD, asgT, unlockO, backA, endF, nIf, nIfs, isAnd, truD, RD.r, binO, binD, cmpR, cmpO, isVl, cmpD, biO, biD, ixD, Mn.Loc, keyD, keyD0, meD, recv, gtD, apD, isObj, runC, evF, tyN, ↓evS_fr, ↓evS_frt, ↓evE_lc, L2.atI, L2.ixN, big, asgS_if, nl_un, nl_val, nl_own, q_pp, q_ep, q_ee, q_lp, q_gp, q_le, q_ge, q_ll, q_gl, eq_ii, wd_f, wd_t, n_pe, n_pl, n_pg, n_ep, n_el, n_eg, n_lp, n_le, n_lg, n_gp, n_ge, n_gl, k_p, k_e, k_l, k_g, j_p, j_e, j_l, j_g, putD, popD, fn10, b29, d0, c1, c2]
  generalize he : lpE (rn (k+1)) tf gd _ = fe
  generalize hc : lpC (rn (k+1)) tf gd _ = fc
  obtain ⟨ts, c', s', h1, h2, h3, h4⟩ := lcP (α := Str) (σ := Pot × List Str) (fe := fe) (fc := fc) (x := 2) (fun c s => [.own c.1.w, .own (c.2.map .str), s]) (fun _ _ _ => rfl) D.str (· ∈ pls) (fun n c => n ≤ c.2.length ∧ c.2.length ≤ 8 ∧ ∀ x ∈ c.2, x ∈ pls)
    (fun c d => by subst hc; simp [evSs, evS, evE, evEs, evB, evC, evO, evP, evI, callD, argSl, argSls, bors, wb, frz, frzs, sees, R.see, lockS, unlockS, asgR, retR, setD, asgT, unlockO, backA, endF, nIf, nIfs, isAnd, truD, RD.r, binO, binD, cmpR, cmpO, isVl, cmpD, biO, biD, ixD, Mn.Loc, keyD, keyD0, meD, recv, gtD, apD, isObj, runC, evF, tyN, ↓evS_fr, ↓evS_frt, ↓evE_lc, L2.atI, L2.ixN, big, asgS_if, nl_un, nl_val, nl_own, q_pp, q_ep, q_ee, q_lp, q_gp, q_le, q_ge, q_ll, q_gl, eq_ii, wd_f, wd_t, n_pe, n_pl, n_pg, n_ep, n_el, n_eg, n_lp, n_le, n_lg, n_gp, n_ge, n_gl, k_p, k_e, k_l, k_g, j_p, j_e, j_l, j_g, putD, popD, lpC])
    (fun n c d ⟨i1, i2, i3⟩ => by
      subst he
      have l1 : (0 : Int) < c.2.length := by omega
      have d1 := draw k c.1 l1 (by omega)
      obtain ⟨q1, q2⟩ := dv_r c.1 l1
      have l3 : (dv c.1 c.2.length).toNat < c.2.length := by omega
      refine ⟨c.2[(dv c.1 c.2.length).toNat], (dn c.1 c.2.length, c.2.take (dv c.1 c.2.length).toNat ++ c.2.drop ((dv c.1 c.2.length).toNat + 1)), i3 _ (List.getElem_mem l3), ⟨by simp [evSs, evS, evE, evEs, evB, evC, evO, evP, evI, callD, argSl, argSls, bors, wb, frz, frzs, sees, R.see, lockS, unlockS, asgR, retR, setD, asgT, unlockO, backA, endF, nIf, nIfs, isAnd, truD, RD.r, binO, binD, cmpR, cmpO, isVl, cmpD, biO, biD, ixD, Mn.Loc, keyD, keyD0, meD, recv, gtD, apD, isObj, runC, evF, tyN, ↓evS_fr, ↓evS_frt, ↓evE_lc, L2.atI, L2.ixN, big, asgS_if, nl_un, nl_val, nl_own, q_pp, q_ep, q_ee, q_lp, q_gp, q_le, q_ge, q_ll, q_gl, eq_ii, wd_f, wd_t, n_pe, n_pl, n_pg, n_ep, n_el, n_eg, n_lp, n_le, n_lg, n_gp, n_ge, n_gl, k_p, k_e, k_l, k_g, j_p, j_e, j_l, j_g, putD, popD]; omega, by simp [evSs, evS, evE, evEs, evB, evC, evO, evP, evI, callD, argSl, argSls, bors, wb, frz, frzs, sees, R.see, lockS, unlockS, asgR, retR, setD, asgT, unlockO, backA, endF, nIf, nIfs, isAnd, truD, RD.r, binO, binD, cmpR, cmpO, isVl, cmpD, biO, biD, ixD, Mn.Loc, keyD, keyD0, meD, recv, gtD, apD, isObj, runC, evF, tyN, ↓evS_fr, ↓evS_frt, ↓evE_lc, L2.atI, L2.ixN, big, asgS_if, nl_un, nl_val, nl_own, q_pp, q_ep, q_ee, q_lp, q_gp, q_le, q_ge, q_ll, q_gl, eq_ii, wd_f, wd_t, n_pe, n_pl, n_pg, n_ep, n_el, n_eg, n_lp, n_le, n_lg, n_gp, n_ge, n_gl, k_p, k_e, k_l, k_g, j_p, j_e, j_l, j_g, putD, popD]; omega, fun x hx => ?_⟩, ?_⟩
      · rcases List.mem_append.mp hx with hx | hx
        · exact i3 x (List.mem_of_mem_take hx)
        · exact i3 x (List.mem_of_mem_drop hx)
      · have q3 : dv c.1 c.2.length < 1000000 := by omega
        simp [evSs, evS, evE, evEs, evB, evC, evO, evP, evI, callD, argSl, argSls, bors, wb, frz, frzs, sees, R.see, lockS, unlockS, asgR, retR, setD, asgT, unlockO, backA, endF, nIf, nIfs, isAnd, truD, RD.r, binO, binD, cmpR, cmpO, isVl, cmpD, biO, biD, ixD, Mn.Loc, keyD, keyD0, meD, recv, gtD, apD, isObj, runC, evF, tyN, ↓evS_fr, ↓evS_frt, ↓evE_lc, L2.atI, L2.ixN, big, asgS_if, nl_un, nl_val, nl_own, q_pp, q_ep, q_ee, q_lp, q_gp, q_le, q_ge, q_ll, q_gl, eq_ii, wd_f, wd_t, n_pe, n_pl, n_pg, n_ep, n_el, n_eg, n_lp, n_le, n_lg, n_gp, n_ge, n_gl, k_p, k_e, k_l, k_g, j_p, j_e, j_l, j_g, putD, popD, lpE, d1, q1, q3, List.getElem?_eq_getElem l3, List.map_take, List.map_drop])
    (rngD 0 (1 + dv p 5).toNat) [] (dn p 5, pls) .un ⟨by rw [rng_len]; simp [evSs, evS, evE, evEs, evB, evC, evO, evP, evI, callD, argSl, argSls, bors, wb, frz, frzs, sees, R.see, lockS, unlockS, asgR, retR, setD, asgT, unlockO, backA, endF, nIf, nIfs, isAnd, truD, RD.r, binO, binD, cmpR, cmpO, isVl, cmpD, biO, biD, ixD, Mn.Loc, keyD, keyD0, meD, recv, gtD, apD, isObj, runC, evF, tyN, ↓evS_fr, ↓evS_frt, ↓evE_lc, L2.atI, L2.ixN, big, asgS_if, nl_un, nl_val, nl_own, q_pp, q_ep, q_ee, q_lp, q_gp, q_le, q_ge, q_ll, q_gl, eq_ii, wd_f, wd_t, n_pe, n_pl, n_pg, n_ep, n_el, n_eg, n_lp, n_le, n_lg, n_gp, n_ge, n_gl, k_p, k_e, k_l, k_g, j_p, j_e, j_l, j_g, putD, popD, pls]; omega, by simp [evSs, evS, evE, evEs, evB, evC, evO, evP, evI, callD, argSl, argSls, bors, wb, frz, frzs, sees, R.see, lockS, unlockS, asgR, retR, setD, asgT, unlockO, backA, endF, nIf, nIfs, isAnd, truD, RD.r, binO, binD, cmpR, cmpO, isVl, cmpD, biO, biD, ixD, Mn.Loc, keyD, keyD0, meD, recv, gtD, apD, isObj, runC, evF, tyN, ↓evS_fr, ↓evS_frt, ↓evE_lc, L2.atI, L2.ixN, big, asgS_if, nl_un, nl_val, nl_own, q_pp, q_ep, q_ee, q_lp, q_gp, q_le, q_ge, q_ll, q_gl, eq_ii, wd_f, wd_t, n_pe, n_pl, n_pg, n_ep, n_el, n_eg, n_lp, n_le, n_lg, n_gp, n_ge, n_gl, k_p, k_e, k_l, k_g, j_p, j_e, j_l, j_g, putD, popD, pls], fun x hx => hx⟩ (by rw [rng_len]; simp [evSs, evS, evE, evEs, evB, evC, evO, evP, evI, callD, argSl, argSls, bors, wb, frz, frzs, sees, R.see, lockS, unlockS, asgR, retR, setD, asgT, unlockO, backA, endF, nIf, nIfs, isAnd, truD, RD.r, binO, binD, cmpR, cmpO, isVl, cmpD, biO, biD, ixD, Mn.Loc, keyD, keyD0, meD, recv, gtD, apD, isObj, runC, evF, tyN, ↓evS_fr, ↓evS_frt, ↓evE_lc, L2.atI, L2.ixN, big, asgS_if, nl_un, nl_val, nl_own, q_pp, q_ep, q_ee, q_lp, q_gp, q_le, q_ge, q_ll, q_gl, eq_ii, wd_f, wd_t, n_pe, n_pl, n_pg, n_ep, n_el, n_eg, n_lp, n_le, n_lg, n_gp, n_ge, n_gl, k_p, k_e, k_l, k_g, j_p, j_e, j_l, j_g, putD, popD]; omega)
  simp [evSs, evS, evE, evEs, evB, evC, evO, evP, evI, callD, argSl, argSls, bors, wb, frz, frzs, sees, R.see, lockS, unlockS, asgR, retR, setD, asgT, unlockO, backA, endF, nIf, nIfs, isAnd, truD, RD.r, binO, binD, cmpR, cmpO, isVl, cmpD, biO, biD, ixD, Mn.Loc, keyD, keyD0, meD, recv, gtD, apD, isObj, runC, evF, tyN, ↓evS_fr, ↓evS_frt, ↓evE_lc, L2.atI, L2.ixN, big, asgS_if, nl_un, nl_val, nl_own, q_pp, q_ep, q_ee, q_lp, q_gp, q_le, q_ge, q_ll, q_gl, eq_ii, wd_f, wd_t, n_pe, n_pl, n_pg, n_ep, n_el, n_eg, n_lp, n_le, n_lg, n_gp, n_ge, n_gl, k_p, k_e, k_l, k_g, j_p, j_e, j_l, j_g, putD, popD, pls] at h4
  rw [rng_len] at h1
  refine ⟨ts, fun z => by rw [z] at h1; simp [evSs, evS, evE, evEs, evB, evC, evO, evP, evI, callD, argSl, argSls, bors, wb, frz, frzs, sees, R.see, lockS, unlockS, asgR, retR, setD, asgT, unlockO, backA, endF, nIf, nIfs, isAnd, truD, RD.r, binO, binD, cmpR, cmpO, isVl, cmpD, biO, biD, ixD, Mn.Loc, keyD, keyD0, meD, recv, gtD, apD, isObj, runC, evF, tyN, ↓evS_fr, ↓evS_frt, ↓evE_lc, L2.atI, L2.ixN, big, asgS_if, nl_un, nl_val, nl_own, q_pp, q_ep, q_ee, q_lp, q_gp, q_le, q_ge, q_ll, q_gl, eq_ii, wd_f, wd_t, n_pe, n_pl, n_pg, n_ep, n_el, n_eg, n_lp, n_le, n_lg, n_gp, n_ge, n_gl, k_p, k_e, k_l, k_g, j_p, j_e, j_l, j_g, putD, popD] at h1; omega, h2, by omega, c'.1, ?_⟩
  simp [evSs, evS, evE, evEs, evB, evC, evO, evP, evI, callD, argSl, argSls, bors, wb, frz, frzs, sees, R.see, lockS, unlockS, asgR, retR, setD, asgT, unlockO, backA, endF, nIf, nIfs, isAnd, truD, RD.r, binO, binD, cmpR, cmpO, isVl, cmpD, biO, biD, ixD, Mn.Loc, keyD, keyD0, meD, recv, gtD, apD, isObj, runC, evF, tyN, ↓evS_fr, ↓evS_frt, ↓evE_lc, L2.atI, L2.ixN, big, asgS_if, nl_un, nl_val, nl_own, q_pp, q_ep, q_ee, q_lp, q_gp, q_le, q_ge, q_ll, q_gl, eq_ii, wd_f, wd_t, n_pe, n_pl, n_pg, n_ep, n_el, n_eg, n_lp, n_le, n_lg, n_gp, n_ge, n_gl, k_p, k_e, k_l, k_g, j_p, j_e, j_l, j_g, putD, popD, h4]
def plD (xs : List Str) : List D := xs.map .str
theorem pickS (k : Nat) (p : Pot) {xs : List Str} (h : xs ≠ []) (h2 : xs.length ≤ 8) : ∃ x ∈ xs, ∃ p' : Pot, rn (k+2) 9 [.own p.w, .own (plD xs)] = some (.ret (.val (.str x)) [.own p'.w, .own (plD xs)]) := by
  obtain ⟨x, hx, e⟩ := pick k p (xs := plD xs) (by simp [evSs, evS, evE, evEs, evB, evC, evO, evP, evI, callD, argSl, argSls, bors, wb, frz, frzs, sees, R.see, lockS, unlockS, asgR, retR, setD, asgT, unlockO, backA, endF, nIf, nIfs, isAnd, truD, RD.r, binO, binD, cmpR, cmpO, isVl, cmpD, biO, biD, ixD, Mn.Loc, keyD, keyD0, meD, recv, gtD, apD, isObj, runC, evF, tyN, ↓evS_fr, ↓evS_frt, ↓evE_lc, L2.atI, L2.ixN, big, asgS_if, nl_un, nl_val, nl_own, q_pp, q_ep, q_ee, q_lp, q_gp, q_le, q_ge, q_ll, q_gl, eq_ii, wd_f, wd_t, n_pe, n_pl, n_pg, n_ep, n_el, n_eg, n_lp, n_le, n_lg, n_gp, n_ge, n_gl, k_p, k_e, k_l, k_g, j_p, j_e, j_l, j_g, putD, popD, plD, h]) (by simp [evSs, evS, evE, evEs, evB, evC, evO, evP, evI, callD, argSl, argSls, bors, wb, frz, frzs, sees, R.see, lockS, unlockS, asgR, retR, setD, asgT, unlockO, backA, endF, nIf, nIfs, isAnd, truD, RD.r, binO, binD, cmpR, cmpO, isVl, cmpD, biO, biD, ixD, Mn.Loc, keyD, keyD0, meD, recv, gtD, apD, isObj, runC, evF, tyN, ↓evS_fr, ↓evS_frt, ↓evE_lc, L2.atI, L2.ixN, big, asgS_if, nl_un, nl_val, nl_own, q_pp, q_ep, q_ee, q_lp, q_gp, q_le, q_ge, q_ll, q_gl, eq_ii, wd_f, wd_t, n_pe, n_pl, n_pg, n_ep, n_el, n_eg, n_lp, n_le, n_lg, n_gp, n_ge, n_gl, k_p, k_e, k_l, k_g, j_p, j_e, j_l, j_g, putD, popD, plD]; omega)
  obtain ⟨y, hy, rfl⟩ := List.mem_map.mp hx
  exact ⟨y, hy, _, e⟩
end K13

-- P13l
set_option Elab.async false
set_option linter.all false
set_option maxRecDepth 100000
set_option maxHeartbeats 4000000
set_option autoImplicit false
namespace K13
open PySem Mn
structure PlOk (xs : List Str) : Prop where
  ne : xs ≠ []
  sub : ∀ x ∈ xs, x ∈ pls
  len : xs.length ≤ 5
theorem deps_le {m : Nat} : ∀ {ts : List Tm}, (∀ t ∈ ts, dep t ≤ m) → deps ts ≤ m
  | [], _ => by simp [evSs, evS, evE, evEs, evB, evC, evO, evP, evI, callD, argSl, argSls, bors, wb, frz, frzs, sees, R.see, lockS, unlockS, asgR, retR, setD, asgT, unlockO, backA, endF, nIf, nIfs, isAnd, truD, RD.r, binO, binD, cmpR, cmpO, isVl, cmpD, biO, biD, ixD, Mn.Loc, keyD, keyD0, meD, recv, gtD, apD, isObj, runC, evF, tyN, ↓evS_fr, ↓evS_frt, ↓evE_lc, L2.atI, L2.ixN, big, asgS_if, nl_un, nl_val, nl_own, q_pp, q_ep, q_ee, q_lp, q_gp, q_le, q_ge, q_ll, q_gl, eq_ii, wd_f, wd_t, n_pe, n_pl, n_pg, n_ep, n_el, n_eg, n_lp, n_le, n_lg, n_gp, n_ge, n_gl, k_p, k_e, k_l, k_g, j_p, j_e, j_l, j_g, putD, deps]
  | t :: ts, h => by
    have h1 := h t (by simp [evSs, evS, evE, evEs, evB, evC, evO, evP, evI, callD, argSl, argSls, bors, wb, frz, frzs, sees, R.see, lockS, unlockS, asgR, retR, setD, asgT, unlockO, backA, endF, nIf, nIfs, isAnd, truD, RD.r, binO, binD, cmpR, cmpO, isVl, cmpD, biO, biD, ixD, Mn.Loc, keyD, keyD0, meD, recv, gtD, apD, isObj, runC, evF, tyN, ↓evS_fr, ↓evS_frt, ↓evE_lc, L2.atI, L2.ixN, big, asgS_if, nl_un, nl_val, nl_own, q_pp, q_ep, q_ee, q_lp, q_gp, q_le, q_ge, q_ll, q_gl, eq_ii, wd_f, wd_t, n_pe, n_pl, n_pg, n_ep, n_el, n_eg, n_lp, n_le, n_lg, n_gp, n_ge, n_gl, k_p, k_e, k_l, k_g, j_p, j_e, j_l, j_g, putD])
    have h2 := deps_le (ts := ts) (fun u hu => h u (by simp [evSs, evS, evE, evEs, evB, evC, evO, evP, evI, callD, argSl, argSls, bors, wb, frz, frzs, sees, R.see, lockS, unlockS, asgR, retR, setD, asgT, unlockO, backA, endF, nIf, nIfs, isAnd, truD, RD.r, binO, binD, cmpR, cmpO, isVl, cmpD, biO, biD, ixD, Mn.Loc, keyD, keyD0, meD, recv, gtD, apD, isObj, runC, evF, tyN, ↓evS_fr, ↓evS_frt, ↓evE_lc, L2.atI, L2.ixN, big, asgS_if, nl_un, nl_val, nl_own, q_pp, q_ep, q_ee, q_lp, q_gp, q_le, q_ge, q_ll, q_gl, eq_ii, wd_f, wd_t, n_pe, n_pl, n_pg, n_ep, n_el, n_eg, n_lp, n_le, n_lg, n_gp, n_ge, n_gl, k_p, k_e, k_l, k_g, j_p, j_e, j_l, j_g, putD, hu]))
    rw [deps]
    omega
theorem term : ∀ (deep : Nat), deep ≤ 3 → ∀ (n : Nat), deep + 3 ≤ n → ∀ (p : Pot) {xs : List Str}, PlOk xs → ∃ t, Wf t ∧ dep t ≤ deep ∧ ∃ p' : Pot, rn n 11 [.own p.w, .own (plD xs), .val (.int (deep : Nat))] = some (.ret (.val (tmD t)) [.own p'.w, .own (plD xs), .val (.int (deep : Nat))]) := by
  intro deep
  induction deep with
  | zero =>
    intro _ n hn p xs ok
    obtain ⟨k, rfl⟩ : ∃ k, n = k + 3 := ⟨n - 3, by omega⟩
    have d0 := draw (k+1) p (m := 9) (by decide) (by decide)
    have d1 := draw (k+1) (dn p 9) (m := 6) (by decide) (by decide)
    by_cases q : dv (dn p 9) 6 = 0
    · obtain ⟨x, hx, e⟩ := pick k (dn (dn p 9) 6) (xs := [.str "bottom", .str "top"]) (by simp [evSs, evS, evE, evEs, evB, evC, evO, evP, evI, callD, argSl, argSls, bors, wb, frz, frzs, sees, R.see, lockS, unlockS, asgR, retR, setD, asgT, unlockO, backA, endF, nIf, nIfs, isAnd, truD, RD.r, binO, binD, cmpR, cmpO, isVl, cmpD, biO, biD, ixD, Mn.Loc, keyD, keyD0, meD, recv, gtD, apD, isObj, runC, evF, tyN, ↓evS_fr, ↓evS_frt, ↓evE_lc, L2.atI, L2.ixN, big, asgS_if, nl_un, nl_val, nl_own, q_pp, q_ep, q_ee, q_lp, q_gp, q_le, q_ge, q_ll, q_gl, eq_ii, wd_f, wd_t, n_pe, n_pl, n_pg, n_ep, n_el, n_eg, n_lp, n_le, n_lg, n_gp, n_ge, n_gl, k_p, k_e, k_l, k_g, j_p, j_e, j_l, j_g, putD]) (by simp [evSs, evS, evE, evEs, evB, evC, evO, evP, evI, callD, argSl, argSls, bors, wb, frz, frzs, sees, R.see, lockS, unlockS, asgR, retR, setD, asgT, unlockO, backA, endF, nIf, nIfs, isAnd, truD, RD.r, binO, binD, cmpR, cmpO, isVl, cmpD, biO, biD, ixD, Mn.Loc, keyD, keyD0, meD, recv, gtD, apD, isObj, runC, evF, tyN, ↓evS_fr, ↓evS_frt, ↓evE_lc, L2.atI, L2.ixN, big, asgS_if, nl_un, nl_val, nl_own, q_pp, q_ep, q_ee, q_lp, q_gp, q_le, q_ge, q_ll, q_gl, eq_ii, wd_f, wd_t, n_pe, n_pl, n_pg, n_ep, n_el, n_eg, n_lp, n_le, n_lg, n_gp, n_ge, n_gl, k_p, k_e, k_l, k_g, j_p, j_e, j_l, j_g, putD])
      simp [evSs, evS, evE, evEs, evB, evC, evO, evP, evI, callD, argSl, argSls, bors, wb, frz, frzs, sees, R.see, lockS, unlockS, asgR, retR, setD, asgT, unlockO, backA, endF, nIf, nIfs, isAnd, truD, RD.r, binO, binD, cmpR, cmpO, isVl, cmpD, biO, biD, ixD, Mn.Loc, keyD, keyD0, meD, recv, gtD, apD, isObj, runC, evF, tyN, ↓evS_fr, ↓evS_frt, ↓evE_lc, L2.atI, L2.ixN, big, asgS_if, nl_un, nl_val, nl_own, q_pp, q_ep, q_ee, q_lp, q_gp, q_le, q_ge, q_ll, q_gl, eq_ii, wd_f, wd_t, n_pe, n_pl, n_pg, n_ep, n_el, n_eg, n_lp, n_le, n_lg, n_gp, n_ge, n_gl, k_p, k_e, k_l, k_g, j_p, j_e, j_l, j_g, putD] at hx
      rcases hx with rfl | rfl
      · exact ⟨.en "bottom", .en (.inl rfl), by simp [evSs, evS, evE, evEs, evB, evC, evO, evP, evI, callD, argSl, argSls, bors, wb, frz, frzs, sees, R.see, lockS, unlockS, asgR, retR, setD, asgT, unlockO, backA, endF, nIf, nIfs, isAnd, truD, RD.r, binO, binD, cmpR, cmpO, isVl, cmpD, biO, biD, ixD, Mn.Loc, keyD, keyD0, meD, recv, gtD, apD, isObj, runC, evF, tyN, ↓evS_fr, ↓evS_frt, ↓evE_lc, L2.atI, L2.ixN, big, asgS_if, nl_un, nl_val, nl_own, q_pp, q_ep, q_ee, q_lp, q_gp, q_le, q_ge, q_ll, q_gl, eq_ii, wd_f, wd_t, n_pe, n_pl, n_pg, n_ep, n_el, n_eg, n_lp, n_le, n_lg, n_gp, n_ge, n_gl, k_p, k_e, k_l, k_g, j_p, j_e, j_l, j_g, putD, dep], dn (dn (dn p 9) 6) 2, by simp [evSs, evS, evE, evEs, evB, evC, evO, evP, evI, callD, argSl, argSls, bors, wb, frz, frzs, sees, R.see, lockS, unlockS, asgR, retR, setD, asgT, unlockO, backA, endF, nIf, nIfs, isAnd, truD, RD.r, binO, binD, cmpR, cmpO, isVl, cmpD, biO, biD, ixD, Mn.Loc, keyD, keyD0, meD, recv, gtD, apD, isObj, runC, evF, tyN, ↓evS_fr, ↓evS_frt, ↓evE_lc, L2.atI, L2.ixN, big, asgS_if, nl_un, nl_val, nl_own, q_pp, q_ep, q_ee, q_lp, q_gp, q_le, q_ge, q_ll, q_gl, eq_ii, wd_f, wd_t, n_pe, n_pl, n_pg, n_ep, n_el, n_eg, n_lp, n_le, n_lg, n_gp, n_ge, n_gl, k_p, k_e, k_l, k_g, j_p, j_e, j_l, j_g, putD, fn11, b30, d0, d1, q, e, tmD]⟩
      · exact ⟨.en "top", .en (.inr rfl), by simp [evSs, evS, evE, evEs, evB, evC, evO, evP, evI, callD, argSl, argSls, bors, wb, frz, frzs, sees, R.see, lockS, unlockS, asgR, retR, setD, asgT, unlockO, backA, endF, nIf, nIfs, isAnd, truD, RD.r, binO, binD, cmpR, cmpO, isVl, cmpD, biO, biD, ixD, Mn.Loc, keyD, keyD0, meD, recv, gtD, apD, isObj, runC, evF, tyN, ↓evS_fr, ↓evS_frt, ↓evE_lc, L2.atI, L2.ixN, big, asgS_if, nl_un, nl_val, nl_own, q_pp, q_ep, q_ee, q_lp, q_gp, q_le, q_ge, q_ll, q_gl, eq_ii, wd_f, wd_t, n_pe, n_pl, n_pg, n_ep, n_el, n_eg, n_lp, n_le, n_lg, n_gp, n_ge, n_gl, k_p, k_e, k_l, k_g, j_p, j_e, j_l, j_g, putD, dep], dn (dn (dn p 9) 6) 2, by simp [evSs, evS, evE, evEs, evB, evC, evO, evP, evI, callD, argSl, argSls, bors, wb, frz, frzs, sees, R.see, lockS, unlockS, asgR, retR, setD, asgT, unlockO, backA, endF, nIf, nIfs, isAnd, truD, RD.r, binO, binD, cmpR, cmpO, isVl, cmpD, biO, biD, ixD, Mn.Loc, keyD, keyD0, meD, recv, gtD, apD, isObj, runC, evF, tyN, ↓evS_fr, ↓evS_frt, ↓evE_lc, L2.atI, L2.ixN, big, asgS_if, nl_un, nl_val, nl_own, q_pp, q_ep, q_ee, q_lp, q_gp, q_le, q_ge, q_ll, q_gl, eq_ii, wd_f, wd_t, n_pe, n_pl, n_pg, n_ep, n_el, n_eg, n_lp, n_le, n_lg, n_gp, n_ge, n_gl, k_p, k_e, k_l, k_g, j_p, j_e, j_l, j_g, putD, fn11, b30, d0, d1, q, e, tmD]⟩
    · obtain ⟨x, hx, p', e⟩ := pickS k (dn (dn p 9) 6) ok.ne (by have := ok.len; omega)
      exact ⟨.pl x, .pl (ok.sub x hx), by simp [evSs, evS, evE, evEs, evB, evC, evO, evP, evI, callD, argSl, argSls, bors, wb, frz, frzs, sees, R.see, lockS, unlockS, asgR, retR, setD, asgT, unlockO, backA, endF, nIf, nIfs, isAnd, truD, RD.r, binO, binD, cmpR, cmpO, isVl, cmpD, biO, biD, ixD, Mn.Loc, keyD, keyD0, meD, recv, gtD, apD, isObj, runC, evF, tyN, ↓evS_fr, ↓evS_frt, ↓evE_lc, L2.atI, L2.ixN, big, asgS_if, nl_un, nl_val, nl_own, q_pp, q_ep, q_ee, q_lp, q_gp, q_le, q_ge, q_ll, q_gl, eq_ii, wd_f, wd_t, n_pe, n_pl, n_pg, n_ep, n_el, n_eg, n_lp, n_le, n_lg, n_gp, n_ge, n_gl, k_p, k_e, k_l, k_g, j_p, j_e, j_l, j_g, putD, dep], p', by simp [evSs, evS, evE, evEs, evB, evC, evO, evP, evI, callD, argSl, argSls, bors, wb, frz, frzs, sees, R.see, lockS, unlockS, asgR, retR, setD, asgT, unlockO, backA, endF, nIf, nIfs, isAnd, truD, RD.r, binO, binD, cmpR, cmpO, isVl, cmpD, biO, biD, ixD, Mn.Loc, keyD, keyD0, meD, recv, gtD, apD, isObj, runC, evF, tyN, ↓evS_fr, ↓evS_frt, ↓evE_lc, L2.atI, L2.ixN, big, asgS_if, nl_un, nl_val, nl_own, q_pp, q_ep, q_ee, q_lp, q_gp, q_le, q_ge, q_ll, q_gl, eq_ii, wd_f, wd_t, n_pe, n_pl, n_pg, n_ep, n_el, n_eg, n_lp, n_le, n_lg, n_gp, n_ge, n_gl, k_p, k_e, k_l, k_g, j_p, j_e, j_l, j_g, putD, fn11, b30, d0, d1, q, e, tmD]⟩
  | succ deep ih =>
    intro h3 n hn p xs ok
    obtain ⟨k, rfl⟩ : ∃ k, n = k + 3 := ⟨n - 3, by omega⟩
    have d0 := draw (k+1) p (m := 9) (by decide) (by decide)
    have z0 : ¬ ((deep : Int) + 1 = 0) := by omega
    by_cases w2 : dv p 9 < 2
    · have d1 := draw (k+1) (dn p 9) (m := 6) (by decide) (by decide)
      by_cases q : dv (dn p 9) 6 = 0
      · obtain ⟨x, hx, e⟩ := pick k (dn (dn p 9) 6) (xs := [.str "bottom", .str "top"]) (by simp [evSs, evS, evE, evEs, evB, evC, evO, evP, evI, callD, argSl, argSls, bors, wb, frz, frzs, sees, R.see, lockS, unlockS, asgR, retR, setD, asgT, unlockO, backA, endF, nIf, nIfs, isAnd, truD, RD.r, binO, binD, cmpR, cmpO, isVl, cmpD, biO, biD, ixD, Mn.Loc, keyD, keyD0, meD, recv, gtD, apD, isObj, runC, evF, tyN, ↓evS_fr, ↓evS_frt, ↓evE_lc, L2.atI, L2.ixN, big, asgS_if, nl_un, nl_val, nl_own, q_pp, q_ep, q_ee, q_lp, q_gp, q_le, q_ge, q_ll, q_gl, eq_ii, wd_f, wd_t, n_pe, n_pl, n_pg, n_ep, n_el, n_eg, n_lp, n_le, n_lg, n_gp, n_ge, n_gl, k_p, k_e, k_l, k_g, j_p, j_e, j_l, j_g, putD]) (by simp [evSs, evS, evE, evEs, evB, evC, evO, evP, evI, callD, argSl, argSls, bors, wb, frz, frzs, sees, R.see, lockS, unlockS, asgR, retR, setD, asgT, unlockO, backA, endF, nIf, nIfs, isAnd, truD, RD.r, binO, binD, cmpR, cmpO, isVl, cmpD, biO, biD, ixD, Mn.Loc, keyD, keyD0, meD, recv, gtD, apD, isObj, runC, evF, tyN, ↓evS_fr, ↓evS_frt, ↓evE_lc, L2.atI, L2.ixN, big, asgS_if, nl_un, nl_val, nl_own, q_pp, q_ep, q_ee, q_lp, q_gp, q_le, q_ge, q_ll, q_gl, eq_ii, wd_f, wd_t, n_pe, n_pl, n_pg, n_ep, n_el, n_eg, n_lp, n_le, n_lg, n_gp, n_ge, n_gl, k_p, k_e, k_l, k_g, j_p, j_e, j_l, j_g, putD])
        simp [evSs, evS, evE, evEs, evB, evC, evO, evP, evI, callD, argSl, argSls, bors, wb, frz, frzs, sees, R.see, lockS, unlockS, asgR, retR, setD, asgT, unlockO, backA, endF, nIf, nIfs, isAnd, truD, RD.r, binO, binD, cmpR, cmpO, isVl, cmpD, biO, biD, ixD, Mn.Loc, keyD, keyD0, meD, recv, gtD, apD, isObj, runC, evF, tyN, ↓evS_fr, ↓evS_frt, ↓evE_lc, L2.atI, L2.ixN, big, asgS_if, nl_un, nl_val, nl_own, q_pp, q_ep, q_ee, q_lp, q_gp, q_le, q_ge, q_ll, q_gl, eq_ii, wd_f, wd_t, n_pe, n_pl, n_pg, n_ep, n_el, n_eg, n_lp, n_le, n_lg, n_gp, n_ge, n_gl, k_p, k_e, k_l, k_g, j_p, j_e, j_l, j_g, putD] at hx
        rcases hx with rfl | rfl
        · exact ⟨.en "bottom", .en (.inl rfl), by simp [evSs, evS, evE, evEs, evB, evC, evO, evP, evI, callD, argSl, argSls, bors, wb, frz, frzs, sees, R.see, lockS, unlockS, asgR, retR, setD, asgT, unlockO, backA, endF, nIf, nIfs, isAnd, truD, RD.r, binO, binD, cmpR, cmpO, isVl, cmpD, biO, biD, ixD, Mn.Loc, keyD, keyD0, meD, recv, gtD, apD, isObj, runC, evF, tyN, ↓evS_fr, ↓evS_frt, ↓evE_lc, L2.atI, L2.ixN, big, asgS_if, nl_un, nl_val, nl_own, q_pp, q_ep, q_ee, q_lp, q_gp, q_le, q_ge, q_ll, q_gl, eq_ii, wd_f, wd_t, n_pe, n_pl, n_pg, n_ep, n_el, n_eg, n_lp, n_le, n_lg, n_gp, n_ge, n_gl, k_p, k_e, k_l, k_g, j_p, j_e, j_l, j_g, putD, dep], dn (dn (dn p 9) 6) 2, by simp [evSs, evS, evE, evEs, evB, evC, evO, evP, evI, callD, argSl, argSls, bors, wb, frz, frzs, sees, R.see, lockS, unlockS, asgR, retR, setD, asgT, unlockO, backA, endF, nIf, nIfs, isAnd, truD, RD.r, binO, binD, cmpR, cmpO, isVl, cmpD, biO, biD, ixD, Mn.Loc, keyD, keyD0, meD, recv, gtD, apD, isObj, runC, evF, tyN, ↓evS_fr, ↓evS_frt, ↓evE_lc, L2.atI, L2.ixN, big, asgS_if, nl_un, nl_val, nl_own, q_pp, q_ep, q_ee, q_lp, q_gp, q_le, q_ge, q_ll, q_gl, eq_ii, wd_f, wd_t, n_pe, n_pl, n_pg, n_ep, n_el, n_eg, n_lp, n_le, n_lg, n_gp, n_ge, n_gl, k_p, k_e, k_l, k_g, j_p, j_e, j_l, j_g, putD, fn11, b30, d0, d1, q, e, tmD, z0, w2]⟩
        · exact ⟨.en "top", .en (.inr rfl), by simp [evSs, evS, evE, evEs, evB, evC, evO, evP, evI, callD, argSl, argSls, bors, wb, frz, frzs, sees, R.see, lockS, unlockS, asgR, retR, setD, asgT, unlockO, backA, endF, nIf, nIfs, isAnd, truD, RD.r, binO, binD, cmpR, cmpO, isVl, cmpD, biO, biD, ixD, Mn.Loc, keyD, keyD0, meD, recv, gtD, apD, isObj, runC, evF, tyN, ↓evS_fr, ↓evS_frt, ↓evE_lc, L2.atI, L2.ixN, big, asgS_if, nl_un, nl_val, nl_own, q_pp, q_ep, q_ee, q_lp, q_gp, q_le, q_ge, q_ll, q_gl, eq_ii, wd_f, wd_t, n_pe, n_pl, n_pg, n_ep, n_el, n_eg, n_lp, n_le, n_lg, n_gp, n_ge, n_gl, k_p, k_e, k_l, k_g, j_p, j_e, j_l, j_g, putD, dep], dn (dn (dn p 9) 6) 2, by simp [evSs, evS, evE, evEs, evB, evC, evO, evP, evI, callD, argSl, argSls, bors, wb, frz, frzs, sees, R.see, lockS, unlockS, asgR, retR, setD, asgT, unlockO, backA, endF, nIf, nIfs, isAnd, truD, RD.r, binO, binD, cmpR, cmpO, isVl, cmpD, biO, biD, ixD, Mn.Loc, keyD, keyD0, meD, recv, gtD, apD, isObj, runC, evF, tyN, ↓evS_fr, ↓evS_frt, ↓evE_lc, L2.atI, L2.ixN, big, asgS_if, nl_un, nl_val, nl_own, q_pp, q_ep, q_ee, q_lp, q_gp, q_le, q_ge, q_ll, q_gl, eq_ii, wd_f, wd_t, n_pe, n_pl, n_pg, n_ep, n_el, n_eg, n_lp, n_le, n_lg, n_gp, n_ge, n_gl, k_p, k_e, k_l, k_g, j_p, j_e, j_l, j_g, putD, fn11, b30, d0, d1, q, e, tmD, z0, w2]⟩
      · obtain ⟨x, hx, p', e⟩ := pickS k (dn (dn p 9) 6) ok.ne (by have := ok.len; omega)
        exact ⟨.pl x, .pl (ok.sub x hx), by simp [evSs, evS, evE, evEs, evB, evC, evO, evP, evI, callD, argSl, argSls, bors, wb, frz, frzs, sees, R.see, lockS, unlockS, asgR, retR, setD, asgT, unlockO, backA, endF, nIf, nIfs, isAnd, truD, RD.r, binO, binD, cmpR, cmpO, isVl, cmpD, biO, biD, ixD, Mn.Loc, keyD, keyD0, meD, recv, gtD, apD, isObj, runC, evF, tyN, ↓evS_fr, ↓evS_frt, ↓evE_lc, L2.atI, L2.ixN, big, asgS_if, nl_un, nl_val, nl_own, q_pp, q_ep, q_ee, q_lp, q_gp, q_le, q_ge, q_ll, q_gl, eq_ii, wd_f, wd_t, n_pe, n_pl, n_pg, n_ep, n_el, n_eg, n_lp, n_le, n_lg, n_gp, n_ge, n_gl, k_p, k_e, k_l, k_g, j_p, j_e, j_l, j_g, putD, dep], p', by simp [evSs, evS, evE, evEs, evB, evC, evO, evP, evI, callD, argSl, argSls, bors, wb, frz, frzs, sees, R.see, lockS, unlockS, asgR, retR, setD, asgT, unlockO, backA, endF, nIf, nIfs, isAnd, truD, RD.r, binO, binD, cmpR, cmpO, isVl, cmpD, biO, biD, ixD, Mn.Loc, keyD, keyD0, meD, recv, gtD, apD, isObj, runC, evF, tyN, ↓evS_fr, ↓evS_frt, ↓evE_lc, L2.atI, L2.ixN, big, asgS_if, nl_un, nl_val, nl_own, q_pp, q_ep, q_ee, q_lp, q_gp, q_le, q_ge, q_ll, q_gl, eq_ii, wd_f, wd_t, n_pe, n_pl, n_pg, n_ep, n_el, n_eg, n_lp, n_le, n_lg, n_gp, n_ge, n_gl, k_p, k_e, k_l, k_g, j_p, j_e, j_l, j_g, putD, fn11, b30, d0, d1, q, e, tmD, z0, w2]⟩
    · obtain ⟨w, hw, ew⟩ := pick k (dn p 9) (xs := [.str "lesser", .str "greater"]) (by simp [evSs, evS, evE, evEs, evB, evC, evO, evP, evI, callD, argSl, argSls, bors, wb, frz, frzs, sees, R.see, lockS, unlockS, asgR, retR, setD, asgT, unlockO, backA, endF, nIf, nIfs, isAnd, truD, RD.r, binO, binD, cmpR, cmpO, isVl, cmpD, biO, biD, ixD, Mn.Loc, keyD, keyD0, meD, recv, gtD, apD, isObj, runC, evF, tyN, ↓evS_fr, ↓evS_frt, ↓evE_lc, L2.atI, L2.ixN, big, asgS_if, nl_un, nl_val, nl_own, q_pp, q_ep, q_ee, q_lp, q_gp, q_le, q_ge, q_ll, q_gl, eq_ii, wd_f, wd_t, n_pe, n_pl, n_pg, n_ep, n_el, n_eg, n_lp, n_le, n_lg, n_gp, n_ge, n_gl, k_p, k_e, k_l, k_g, j_p, j_e, j_l, j_g, putD]) (by simp [evSs, evS, evE, evEs, evB, evC, evO, evP, evI, callD, argSl, argSls, bors, wb, frz, frzs, sees, R.see, lockS, unlockS, asgR, retR, setD, asgT, unlockO, backA, endF, nIf, nIfs, isAnd, truD, RD.r, binO, binD, cmpR, cmpO, isVl, cmpD, biO, biD, ixD, Mn.Loc, keyD, keyD0, meD, recv, gtD, apD, isObj, runC, evF, tyN, ↓evS_fr, ↓evS_frt, ↓evE_lc, L2.atI, L2.ixN, big, asgS_if, nl_un, nl_val, nl_own, q_pp, q_ep, q_ee, q_lp, q_gp, q_le, q_ge, q_ll, q_gl, eq_ii, wd_f, wd_t, n_pe, n_pl, n_pg, n_ep, n_el, n_eg, n_lp, n_le, n_lg, n_gp, n_ge, n_gl, k_p, k_e, k_l, k_g, j_p, j_e, j_l, j_g, putD])
      obtain ⟨g, rfl⟩ : ∃ g : Bool, w = .str (if g then "greater" else "lesser") := by
        simp [evSs, evS, evE, evEs, evB, evC, evO, evP, evI, callD, argSl, argSls, bors, wb, frz, frzs, sees, R.see, lockS, unlockS, asgR, retR, setD, asgT, unlockO, backA, endF, nIf, nIfs, isAnd, truD, RD.r, binO, binD, cmpR, cmpO, isVl, cmpD, biO, biD, ixD, Mn.Loc, keyD, keyD0, meD, recv, gtD, apD, isObj, runC, evF, tyN, ↓evS_fr, ↓evS_frt, ↓evE_lc, L2.atI, L2.ixN, big, asgS_if, nl_un, nl_val, nl_own, q_pp, q_ep, q_ee, q_lp, q_gp, q_le, q_ge, q_ll, q_gl, eq_ii, wd_f, wd_t, n_pe, n_pl, n_pg, n_ep, n_el, n_eg, n_lp, n_le, n_lg, n_gp, n_ge, n_gl, k_p, k_e, k_l, k_g, j_p, j_e, j_l, j_g, putD] at hw
        rcases hw with rfl | rfl
        · exact ⟨false, rfl⟩
        · exact ⟨true, rfl⟩
      generalize dn (dn p 9) ([D.str "lesser", D.str "greater"] : List D).length = p1 at ew
      by_cases w8 : dv p 9 = 8
      · simp [evSs, evS, evE, evEs, evB, evC, evO, evP, evI, callD, argSl, argSls, bors, wb, frz, frzs, sees, R.see, lockS, unlockS, asgR, retR, setD, asgT, unlockO, backA, endF, nIf, nIfs, isAnd, truD, RD.r, binO, binD, cmpR, cmpO, isVl, cmpD, biO, biD, ixD, Mn.Loc, keyD, keyD0, meD, recv, gtD, apD, isObj, runC, evF, tyN, ↓evS_fr, ↓evS_frt, ↓evE_lc, L2.atI, L2.ixN, big, asgS_if, nl_un, nl_val, nl_own, q_pp, q_ep, q_ee, q_lp, q_gp, q_le, q_ge, q_ll, q_gl, eq_ii, wd_f, wd_t, n_pe, n_pl, n_pg, n_ep, n_el, n_eg, n_lp, n_le, n_lg, n_gp, n_ge, n_gl, k_p, k_e, k_l, k_g, j_p, j_e, j_l, j_g, putD, fn11, b30, d0, z0, w2, ew, w8]
        generalize he : lpE (rn (k+2)) tf gd _ = fe
        generalize hc : lpC (rn (k+2)) tf gd _ = fc
        obtain ⟨ts, c', s', h1, h2, h4, h5⟩ := lcP (α := Tm) (σ := Pot) (fe := fe) (fc := fc) (x := 5) (fun c s => [.own c.w, .own (plD xs), .val (.int ((deep : Int) + 1)), .val (.int 8), .val (.str (if g then "greater" else "lesser")), s]) (fun _ _ _ => rfl) tmD (fun t => Wf t ∧ dep t = 0) (fun _ _ => True)
          (fun c d => by subst hc; simp [evSs, evS, evE, evEs, evB, evC, evO, evP, evI, callD, argSl, argSls, bors, wb, frz, frzs, sees, R.see, lockS, unlockS, asgR, retR, setD, asgT, unlockO, backA, endF, nIf, nIfs, isAnd, truD, RD.r, binO, binD, cmpR, cmpO, isVl, cmpD, biO, biD, ixD, Mn.Loc, keyD, keyD0, meD, recv, gtD, apD, isObj, runC, evF, tyN, ↓evS_fr, ↓evS_frt, ↓evE_lc, L2.atI, L2.ixN, big, asgS_if, nl_un, nl_val, nl_own, q_pp, q_ep, q_ee, q_lp, q_gp, q_le, q_ge, q_ll, q_gl, eq_ii, wd_f, wd_t, n_pe, n_pl, n_pg, n_ep, n_el, n_eg, n_lp, n_le, n_lg, n_gp, n_ge, n_gl, k_p, k_e, k_l, k_g, j_p, j_e, j_l, j_g, putD, lpC])
          (fun n c d _ => by
            subst he
            obtain ⟨x, hx, p', e⟩ := pickS k c ok.ne (by have := ok.len; omega)
            exact ⟨.pl x, p', ⟨.pl (ok.sub x hx), rfl⟩, True.intro, by simp [evSs, evS, evE, evEs, evB, evC, evO, evP, evI, callD, argSl, argSls, bors, wb, frz, frzs, sees, R.see, lockS, unlockS, asgR, retR, setD, asgT, unlockO, backA, endF, nIf, nIfs, isAnd, truD, RD.r, binO, binD, cmpR, cmpO, isVl, cmpD, biO, biD, ixD, Mn.Loc, keyD, keyD0, meD, recv, gtD, apD, isObj, runC, evF, tyN, ↓evS_fr, ↓evS_frt, ↓evE_lc, L2.atI, L2.ixN, big, asgS_if, nl_un, nl_val, nl_own, q_pp, q_ep, q_ee, q_lp, q_gp, q_le, q_ge, q_ll, q_gl, eq_ii, wd_f, wd_t, n_pe, n_pl, n_pg, n_ep, n_el, n_eg, n_lp, n_le, n_lg, n_gp, n_ge, n_gl, k_p, k_e, k_l, k_g, j_p, j_e, j_l, j_g, putD, lpE, e, tmD]⟩)
          (rngD 0 8) [] p1 .un True.intro (by rw [rng_len]; simp [evSs, evS, evE, evEs, evB, evC, evO, evP, evI, callD, argSl, argSls, bors, wb, frz, frzs, sees, R.see, lockS, unlockS, asgR, retR, setD, asgT, unlockO, backA, endF, nIf, nIfs, isAnd, truD, RD.r, binO, binD, cmpR, cmpO, isVl, cmpD, biO, biD, ixD, Mn.Loc, keyD, keyD0, meD, recv, gtD, apD, isObj, runC, evF, tyN, ↓evS_fr, ↓evS_frt, ↓evE_lc, L2.atI, L2.ixN, big, asgS_if, nl_un, nl_val, nl_own, q_pp, q_ep, q_ee, q_lp, q_gp, q_le, q_ge, q_ll, q_gl, eq_ii, wd_f, wd_t, n_pe, n_pl, n_pg, n_ep, n_el, n_eg, n_lp, n_le, n_lg, n_gp, n_ge, n_gl, k_p, k_e, k_l, k_g, j_p, j_e, j_l, j_g, putD])
        rw [rng_len] at h1
        refine ⟨.nd g ts, .nd (fun t ht => (h2 t ht).1) (by omega), ?_, c', ?_⟩
        · have := deps_le (m := 0) (ts := ts) fun t ht => by rw [(h2 t ht).2]; omega
          rw [dep]
          omega
        · simp [evSs, evS, evE, evEs, evB, evC, evO, evP, evI, callD, argSl, argSls, bors, wb, frz, frzs, sees, R.see, lockS, unlockS, asgR, retR, setD, asgT, unlockO, backA, endF, nIf, nIfs, isAnd, truD, RD.r, binO, binD, cmpR, cmpO, isVl, cmpD, biO, biD, ixD, Mn.Loc, keyD, keyD0, meD, recv, gtD, apD, isObj, runC, evF, tyN, ↓evS_fr, ↓evS_frt, ↓evE_lc, L2.atI, L2.ixN, big, asgS_if, nl_un, nl_val, nl_own, q_pp, q_ep, q_ee, q_lp, q_gp, q_le, q_ge, q_ll, q_gl, eq_ii, wd_f, wd_t, n_pe, n_pl, n_pg, n_ep, n_el, n_eg, n_lp, n_le, n_lg, n_gp, n_ge, n_gl, k_p, k_e, k_l, k_g, j_p, j_e, j_l, j_g, putD, h5, tmD, tmDs_map]
      · obtain ⟨m, hm, em⟩ := pick k p1 (xs := [.int 2, .int 2, .int 3, .int 4]) (by simp [evSs, evS, evE, evEs, evB, evC, evO, evP, evI, callD, argSl, argSls, bors, wb, frz, frzs, sees, R.see, lockS, unlockS, asgR, retR, setD, asgT, unlockO, backA, endF, nIf, nIfs, isAnd, truD, RD.r, binO, binD, cmpR, cmpO, isVl, cmpD, biO, biD, ixD, Mn.Loc, keyD, keyD0, meD, recv, gtD, apD, isObj, runC, evF, tyN, ↓evS_fr, ↓evS_frt, ↓evE_lc, L2.atI, L2.ixN, big, asgS_if, nl_un, nl_val, nl_own, q_pp, q_ep, q_ee, q_lp, q_gp, q_le, q_ge, q_ll, q_gl, eq_ii, wd_f, wd_t, n_pe, n_pl, n_pg, n_ep, n_el, n_eg, n_lp, n_le, n_lg, n_gp, n_ge, n_gl, k_p, k_e, k_l, k_g, j_p, j_e, j_l, j_g, putD]) (by simp [evSs, evS, evE, evEs, evB, evC, evO, evP, evI, callD, argSl, argSls, bors, wb, frz, frzs, sees, R.see, lockS, unlockS, asgR, retR, setD, asgT, unlockO, backA, endF, nIf, nIfs, isAnd, truD, RD.r, binO, binD, cmpR, cmpO, isVl, cmpD, biO, biD, ixD, Mn.Loc, keyD, keyD0, meD, recv, gtD, apD, isObj, runC, evF, tyN, ↓evS_fr, ↓evS_frt, ↓evE_lc, L2.atI, L2.ixN, big, asgS_if, nl_un, nl_val, nl_own, q_pp, q_ep, q_ee, q_lp, q_gp, q_le, q_ge, q_ll, q_gl, eq_ii, wd_f, wd_t, n_pe, n_pl, n_pg, n_ep, n_el, n_eg, n_lp, n_le, n_lg, n_gp, n_ge, n_gl, k_p, k_e, k_l, k_g, j_p, j_e, j_l, j_g, putD])
        obtain ⟨j, rfl, hj⟩ : ∃ j : Nat, m = .int j ∧ (j = 2 ∨ j = 3 ∨ j = 4) := by
          simp [evSs, evS, evE, evEs, evB, evC, evO, evP, evI, callD, argSl, argSls, bors, wb, frz, frzs, sees, R.see, lockS, unlockS, asgR, retR, setD, asgT, unlockO, backA, endF, nIf, nIfs, isAnd, truD, RD.r, binO, binD, cmpR, cmpO, isVl, cmpD, biO, biD, ixD, Mn.Loc, keyD, keyD0, meD, recv, gtD, apD, isObj, runC, evF, tyN, ↓evS_fr, ↓evS_frt, ↓evE_lc, L2.atI, L2.ixN, big, asgS_if, nl_un, nl_val, nl_own, q_pp, q_ep, q_ee, q_lp, q_gp, q_le, q_ge, q_ll, q_gl, eq_ii, wd_f, wd_t, n_pe, n_pl, n_pg, n_ep, n_el, n_eg, n_lp, n_le, n_lg, n_gp, n_ge, n_gl, k_p, k_e, k_l, k_g, j_p, j_e, j_l, j_g, putD] at hm
          rcases hm with rfl | rfl | rfl
          · exact ⟨2, rfl, by omega⟩
          · exact ⟨3, rfl, by omega⟩
          · exact ⟨4, rfl, by omega⟩
        generalize dn p1 ([D.int 2, D.int 2, D.int 3, D.int 4] : List D).length = p2 at em
        have c1 : (-1000000 : Int) ≤ j := by omega
        have c2 : (j : Int) ≤ 1000000 := by omega
        simp [evSs, evS, evE, evEs, evB, evC, evO, evP, evI, callD, argSl, argSls, bors, wb, frz, frzs, sees, R.see, lockS, unlockS, asgR, retR, setD, asgT, unlockO, backA, endF, nIf, nIfs, isAnd, truD, RD.r, binO, binD, cmpR, cmpO, isVl, cmpD, biO, biD, ixD, Mn.Loc, keyD, keyD0, meD, recv, gtD, apD, isObj, runC, evF, tyN, ↓evS_fr, ↓evS_frt, ↓evE_lc, L2.atI, L2.ixN, big, asgS_if, nl_un, nl_val, nl_own, q_pp, q_ep, q_ee, q_lp, q_gp, q_le, q_ge, q_ll, q_gl, eq_ii, wd_f, wd_t, n_pe, n_pl, n_pg, n_ep, n_el, n_eg, n_lp, n_le, n_lg, n_gp, n_ge, n_gl, k_p, k_e, k_l, k_g, j_p, j_e, j_l, j_g, putD, fn11, b30, d0, z0, w2, ew, w8, em, c1, c2]
        generalize he : lpE (rn (k+2)) tf gd _ = fe
        generalize hc : lpC (rn (k+2)) tf gd _ = fc
        obtain ⟨ts, c', s', h1, h2, h4, h5⟩ := lcP (α := Tm) (σ := Pot) (fe := fe) (fc := fc) (x := 5) (fun c s => [.own c.w, .own (plD xs), .val (.int ((deep : Int) + 1)), .val (.int (dv p 9)), .val (.str (if g then "greater" else "lesser")), s]) (fun _ _ _ => rfl) tmD (fun t => Wf t ∧ dep t ≤ deep) (fun _ _ => True)
          (fun c d => by subst hc; simp [evSs, evS, evE, evEs, evB, evC, evO, evP, evI, callD, argSl, argSls, bors, wb, frz, frzs, sees, R.see, lockS, unlockS, asgR, retR, setD, asgT, unlockO, backA, endF, nIf, nIfs, isAnd, truD, RD.r, binO, binD, cmpR, cmpO, isVl, cmpD, biO, biD, ixD, Mn.Loc, keyD, keyD0, meD, recv, gtD, apD, isObj, runC, evF, tyN, ↓evS_fr, ↓evS_frt, ↓evE_lc, L2.atI, L2.ixN, big, asgS_if, nl_un, nl_val, nl_own, q_pp, q_ep, q_ee, q_lp, q_gp, q_le, q_ge, q_ll, q_gl, eq_ii, wd_f, wd_t, n_pe, n_pl, n_pg, n_ep, n_el, n_eg, n_lp, n_le, n_lg, n_gp, n_ge, n_gl, k_p, k_e, k_l, k_g, j_p, j_e, j_l, j_g, putD, lpC])
          (fun n c d _ => by
            subst he
            obtain ⟨t, w1, w2, p', e⟩ := ih (by omega) (k+2) (by omega) c ok
            exact ⟨t, p', ⟨w1, w2⟩, True.intro, by simp [evSs, evS, evE, evEs, evB, evC, evO, evP, evI, callD, argSl, argSls, bors, wb, frz, frzs, sees, R.see, lockS, unlockS, asgR, retR, setD, asgT, unlockO, backA, endF, nIf, nIfs, isAnd, truD, RD.r, binO, binD, cmpR, cmpO, isVl, cmpD, biO, biD, ixD, Mn.Loc, keyD, keyD0, meD, recv, gtD, apD, isObj, runC, evF, tyN, ↓evS_fr, ↓evS_frt, ↓evE_lc, L2.atI, L2.ixN, big, asgS_if, nl_un, nl_val, nl_own, q_pp, q_ep, q_ee, q_lp, q_gp, q_le, q_ge, q_ll, q_gl, eq_ii, wd_f, wd_t, n_pe, n_pl, n_pg, n_ep, n_el, n_eg, n_lp, n_le, n_lg, n_gp, n_ge, n_gl, k_p, k_e, k_l, k_g, j_p, j_e, j_l, j_g, putD, lpE, e, show (deep : Int) + 1 - 1 = deep by omega]⟩)
          (rngD 0 j) [] p2 .un True.intro (by rw [rng_len]; simp [evSs, evS, evE, evEs, evB, evC, evO, evP, evI, callD, argSl, argSls, bors, wb, frz, frzs, sees, R.see, lockS, unlockS, asgR, retR, setD, asgT, unlockO, backA, endF, nIf, nIfs, isAnd, truD, RD.r, binO, binD, cmpR, cmpO, isVl, cmpD, biO, biD, ixD, Mn.Loc, keyD, keyD0, meD, recv, gtD, apD, isObj, runC, evF, tyN, ↓evS_fr, ↓evS_frt, ↓evE_lc, L2.atI, L2.ixN, big, asgS_if, nl_un, nl_val, nl_own, q_pp, q_ep, q_ee, q_lp, q_gp, q_le, q_ge, q_ll, q_gl, eq_ii, wd_f, wd_t, n_pe, n_pl, n_pg, n_ep, n_el, n_eg, n_lp, n_le, n_lg, n_gp, n_ge, n_gl, k_p, k_e, k_l, k_g, j_p, j_e, j_l, j_g, putD]; omega)
        rw [rng_len] at h1
        refine ⟨.nd g ts, .nd (fun t ht => (h2 t ht).1) (by omega), ?_, c', ?_⟩
        · have := deps_le (m := deep) (ts := ts) fun t ht => (h2 t ht).2
          rw [dep]
          omega
        · simp [evSs, evS, evE, evEs, evB, evC, evO, evP, evI, callD, argSl, argSls, bors, wb, frz, frzs, sees, R.see, lockS, unlockS, asgR, retR, setD, asgT, unlockO, backA, endF, nIf, nIfs, isAnd, truD, RD.r, binO, binD, cmpR, cmpO, isVl, cmpD, biO, biD, ixD, Mn.Loc, keyD, keyD0, meD, recv, gtD, apD, isObj, runC, evF, tyN, ↓evS_fr, ↓evS_frt, ↓evE_lc, L2.atI, L2.ixN, big, asgS_if, nl_un, nl_val, nl_own, q_pp, q_ep, q_ee, q_lp, q_gp, q_le, q_ge, q_ll, q_gl, eq_ii, wd_f, wd_t, n_pe, n_pl, n_pg, n_ep, n_el, n_eg, n_lp, n_le, n_lg, n_gp, n_ge, n_gl, k_p, k_e, k_l, k_g, j_p, j_e, j_l, j_g, putD, h5, tmD, tmDs_map]
end K13

-- P13m
set_option Elab.async false
set_option linter.all false
set_option maxRecDepth 100000
set_option maxHeartbeats 4000000
set_option autoImplicit false
namespace K13
open PySem Mn
theorem n_bt : (Str.ofString "bottom" = Str.ofString "top") = False := by decide +kernel
theorem n_tb : (Str.ofString "top" = Str.ofString "bottom") = False := by decide +kernel
theorem cut_to (xs : List D) {z : Int} (h : 0 ≤ z) : cutD xs none (some z) = xs.take z.toNat := by
  unfold cutD
  rw [show HT.sIx xs.length 0 none = 0 from rfl, show HT.sIx xs.length xs.length (some z) = min z.toNat xs.length from if_neg (by omega), List.drop_zero, Nat.sub_zero]
  by_cases q : z.toNat ≤ xs.length
  · rw [Nat.min_eq_left q]
  · rw [Nat.min_eq_right (by omega), List.take_of_length_le (by omega), List.take_of_length_le (by omega)]
theorem cut_from (xs : List D) {z : Int} (h : 0 ≤ z) (h2 : z ≤ xs.length) : cutD xs (some z) none = xs.drop z.toNat := by
  unfold cutD
  rw [show HT.sIx xs.length 0 (some z) = min z.toNat xs.length from if_neg (by omega), show HT.sIx xs.length xs.length none = xs.length from rfl, Nat.min_eq_left (by omega)]
  rw [List.take_of_length_le (by simp [evSs, evS, evE, evEs, evB, evC, evO, evP, evI, callD, argSl, argSls, bors, wb, frz, frzs, sees, R.see, lockS, unlockS, asgR, retR, setD, asgT, unlockO, backA, endF, nIf, nIfs, isAnd, truD, RD.r, binO, binD, cmpR, cmpO, isVl, cmpD, biO, biD, ixD, Mn.Loc, keyD, keyD0, meD, recv, gtD, apD, isObj, runC, evF, tyN, ↓evS_fr, ↓evS_frt, ↓evE_lc, L2.atI, L2.ixN, big, asgS_if, nl_un, nl_val, nl_own, q_pp, q_ep, q_ee, q_lp, q_gp, q_le, q_ge, q_ll, q_gl, eq_ii, wd_f, wd_t, n_pe, n_pl, n_pg, n_ep, n_el, n_eg, n_lp, n_le, n_lg, n_gp, n_ge, n_gl, k_p, k_e, k_l, k_g, j_p, j_e, j_l, j_g, putD, asgN, slD])]
theorem deps_set {m : Nat} {t : Tm} (ht : dep t ≤ m) : ∀ {ps : List Tm} (i : Nat), deps ps ≤ m → deps (ps.set i t) ≤ m
  | [], _, _ => by simp [evSs, evS, evE, evEs, evB, evC, evO, evP, evI, callD, argSl, argSls, bors, wb, frz, frzs, sees, R.see, lockS, unlockS, asgR, retR, setD, asgT, unlockO, backA, endF, nIf, nIfs, isAnd, truD, RD.r, binO, binD, cmpR, cmpO, isVl, cmpD, biO, biD, ixD, Mn.Loc, keyD, keyD0, meD, recv, gtD, apD, isObj, runC, evF, tyN, ↓evS_fr, ↓evS_frt, ↓evE_lc, L2.atI, L2.ixN, big, asgS_if, nl_un, nl_val, nl_own, q_pp, q_ep, q_ee, q_lp, q_gp, q_le, q_ge, q_ll, q_gl, eq_ii, wd_f, wd_t, n_pe, n_pl, n_pg, n_ep, n_el, n_eg, n_lp, n_le, n_lg, n_gp, n_ge, n_gl, k_p, k_e, k_l, k_g, j_p, j_e, j_l, j_g, putD, asgN, slD, deps]
  | p :: ps, 0, h => by
    rw [deps] at h
    simp only [List.set_cons_zero, deps]
    omega
  | p :: ps, i + 1, h => by
    rw [deps] at h
    have := deps_set ht (ps := ps) i (by omega)
    simp only [List.set_cons_succ, deps]
    omega
theorem bent {t : Tm} (h : Wf t) : ∀ n, dep t + 3 ≤ n → ∀ (p : Pot) {xs : List Str}, PlOk xs → ∃ t', Wf t' ∧ dep t' ≤ dep t + 1 ∧ ∃ p' : Pot, rn n 17 [.own p.w, .val (tmD t), .own (plD xs)] = some (.ret (.val (tmD t')) [.own p'.w, .val (tmD t), .own (plD xs)]) := by
  induction h with
  | @pl x hx =>
    intro n hn p xs ok
    obtain ⟨k, rfl⟩ : ∃ k, n = k + 3 := ⟨n - 3, by omega⟩
    obtain ⟨y, hy, p1, e1⟩ := pickS k p ok.ne (by have := ok.len; omega)
    obtain ⟨d, hd, e2⟩ := pick k p1 (xs := [tmD (.pl y), tmD (.en "top"), tmD (.nd false [.pl x, .pl x]), tmD (.pl x)]) (by simp [evSs, evS, evE, evEs, evB, evC, evO, evP, evI, callD, argSl, argSls, bors, wb, frz, frzs, sees, R.see, lockS, unlockS, asgR, retR, setD, asgT, unlockO, backA, endF, nIf, nIfs, isAnd, truD, RD.r, binO, binD, cmpR, cmpO, isVl, cmpD, biO, biD, ixD, Mn.Loc, keyD, keyD0, meD, recv, gtD, apD, isObj, runC, evF, tyN, ↓evS_fr, ↓evS_frt, ↓evE_lc, L2.atI, L2.ixN, big, asgS_if, nl_un, nl_val, nl_own, q_pp, q_ep, q_ee, q_lp, q_gp, q_le, q_ge, q_ll, q_gl, eq_ii, wd_f, wd_t, n_pe, n_pl, n_pg, n_ep, n_el, n_eg, n_lp, n_le, n_lg, n_gp, n_ge, n_gl, k_p, k_e, k_l, k_g, j_p, j_e, j_l, j_g, putD, asgN, slD]) (by simp [evSs, evS, evE, evEs, evB, evC, evO, evP, evI, callD, argSl, argSls, bors, wb, frz, frzs, sees, R.see, lockS, unlockS, asgR, retR, setD, asgT, unlockO, backA, endF, nIf, nIfs, isAnd, truD, RD.r, binO, binD, cmpR, cmpO, isVl, cmpD, biO, biD, ixD, Mn.Loc, keyD, keyD0, meD, recv, gtD, apD, isObj, runC, evF, tyN, ↓evS_fr, ↓evS_frt, ↓evE_lc, L2.atI, L2.ixN, big, asgS_if, nl_un, nl_val, nl_own, q_pp, q_ep, q_ee, q_lp, q_gp, q_le, q_ge, q_ll, q_gl, eq_ii, wd_f, wd_t, n_pe, n_pl, n_pg, n_ep, n_el, n_eg, n_lp, n_le, n_lg, n_gp, n_ge, n_gl, k_p, k_e, k_l, k_g, j_p, j_e, j_l, j_g, putD, asgN, slD])
    obtain ⟨t', rfl, w1, w2⟩ : ∃ t', d = tmD t' ∧ Wf t' ∧ dep t' ≤ 1 := by
      simp only [List.mem_cons, List.not_mem_nil, or_false] at hd
      rcases hd with rfl | rfl | rfl | rfl
      · exact ⟨_, rfl, .pl (ok.sub y hy), by simp [evSs, evS, evE, evEs, evB, evC, evO, evP, evI, callD, argSl, argSls, bors, wb, frz, frzs, sees, R.see, lockS, unlockS, asgR, retR, setD, asgT, unlockO, backA, endF, nIf, nIfs, isAnd, truD, RD.r, binO, binD, cmpR, cmpO, isVl, cmpD, biO, biD, ixD, Mn.Loc, keyD, keyD0, meD, recv, gtD, apD, isObj, runC, evF, tyN, ↓evS_fr, ↓evS_frt, ↓evE_lc, L2.atI, L2.ixN, big, asgS_if, nl_un, nl_val, nl_own, q_pp, q_ep, q_ee, q_lp, q_gp, q_le, q_ge, q_ll, q_gl, eq_ii, wd_f, wd_t, n_pe, n_pl, n_pg, n_ep, n_el, n_eg, n_lp, n_le, n_lg, n_gp, n_ge, n_gl, k_p, k_e, k_l, k_g, j_p, j_e, j_l, j_g, putD, asgN, slD, dep]⟩
      · exact ⟨_, rfl, .en (.inr rfl), by simp [evSs, evS, evE, evEs, evB, evC, evO, evP, evI, callD, argSl, argSls, bors, wb, frz, frzs, sees, R.see, lockS, unlockS, asgR, retR, setD, asgT, unlockO, backA, endF, nIf, nIfs, isAnd, truD, RD.r, binO, binD, cmpR, cmpO, isVl, cmpD, biO, biD, ixD, Mn.Loc, keyD, keyD0, meD, recv, gtD, apD, isObj, runC, evF, tyN, ↓evS_fr, ↓evS_frt, ↓evE_lc, L2.atI, L2.ixN, big, asgS_if, nl_un, nl_val, nl_own, q_pp, q_ep, q_ee, q_lp, q_gp, q_le, q_ge, q_ll, q_gl, eq_ii, wd_f, wd_t, n_pe, n_pl, n_pg, n_ep, n_el, n_eg, n_lp, n_le, n_lg, n_gp, n_ge, n_gl, k_p, k_e, k_l, k_g, j_p, j_e, j_l, j_g, putD, asgN, slD, dep]⟩
      · refine ⟨_, rfl, .nd (fun q hq => ?_) (by simp [evSs, evS, evE, evEs, evB, evC, evO, evP, evI, callD, argSl, argSls, bors, wb, frz, frzs, sees, R.see, lockS, unlockS, asgR, retR, setD, asgT, unlockO, backA, endF, nIf, nIfs, isAnd, truD, RD.r, binO, binD, cmpR, cmpO, isVl, cmpD, biO, biD, ixD, Mn.Loc, keyD, keyD0, meD, recv, gtD, apD, isObj, runC, evF, tyN, ↓evS_fr, ↓evS_frt, ↓evE_lc, L2.atI, L2.ixN, big, asgS_if, nl_un, nl_val, nl_own, q_pp, q_ep, q_ee, q_lp, q_gp, q_le, q_ge, q_ll, q_gl, eq_ii, wd_f, wd_t, n_pe, n_pl, n_pg, n_ep, n_el, n_eg, n_lp, n_le, n_lg, n_gp, n_ge, n_gl, k_p, k_e, k_l, k_g, j_p, j_e, j_l, j_g, putD, asgN, slD]), by simp [evSs, evS, evE, evEs, evB, evC, evO, evP, evI, callD, argSl, argSls, bors, wb, frz, frzs, sees, R.see, lockS, unlockS, asgR, retR, setD, asgT, unlockO, backA, endF, nIf, nIfs, isAnd, truD, RD.r, binO, binD, cmpR, cmpO, isVl, cmpD, biO, biD, ixD, Mn.Loc, keyD, keyD0, meD, recv, gtD, apD, isObj, runC, evF, tyN, ↓evS_fr, ↓evS_frt, ↓evE_lc, L2.atI, L2.ixN, big, asgS_if, nl_un, nl_val, nl_own, q_pp, q_ep, q_ee, q_lp, q_gp, q_le, q_ge, q_ll, q_gl, eq_ii, wd_f, wd_t, n_pe, n_pl, n_pg, n_ep, n_el, n_eg, n_lp, n_le, n_lg, n_gp, n_ge, n_gl, k_p, k_e, k_l, k_g, j_p, j_e, j_l, j_g, putD, asgN, slD, dep, deps]⟩
        simp [evSs, evS, evE, evEs, evB, evC, evO, evP, evI, callD, argSl, argSls, bors, wb, frz, frzs, sees, R.see, lockS, unlockS, asgR, retR, setD, asgT, unlockO, backA, endF, nIf, nIfs, isAnd, truD, RD.r, binO, binD, cmpR, cmpO, isVl, cmpD, biO, biD, ixD, Mn.Loc, keyD, keyD0, meD, recv, gtD, apD, isObj, runC, evF, tyN, ↓evS_fr, ↓evS_frt, ↓evE_lc, L2.atI, L2.ixN, big, asgS_if, nl_un, nl_val, nl_own, q_pp, q_ep, q_ee, q_lp, q_gp, q_le, q_ge, q_ll, q_gl, eq_ii, wd_f, wd_t, n_pe, n_pl, n_pg, n_ep, n_el, n_eg, n_lp, n_le, n_lg, n_gp, n_ge, n_gl, k_p, k_e, k_l, k_g, j_p, j_e, j_l, j_g, putD, asgN, slD] at hq
        subst hq
        exact .pl hx
      · exact ⟨_, rfl, .pl hx, by simp [evSs, evS, evE, evEs, evB, evC, evO, evP, evI, callD, argSl, argSls, bors, wb, frz, frzs, sees, R.see, lockS, unlockS, asgR, retR, setD, asgT, unlockO, backA, endF, nIf, nIfs, isAnd, truD, RD.r, binO, binD, cmpR, cmpO, isVl, cmpD, biO, biD, ixD, Mn.Loc, keyD, keyD0, meD, recv, gtD, apD, isObj, runC, evF, tyN, ↓evS_fr, ↓evS_frt, ↓evE_lc, L2.atI, L2.ixN, big, asgS_if, nl_un, nl_val, nl_own, q_pp, q_ep, q_ee, q_lp, q_gp, q_le, q_ge, q_ll, q_gl, eq_ii, wd_f, wd_t, n_pe, n_pl, n_pg, n_ep, n_el, n_eg, n_lp, n_le, n_lg, n_gp, n_ge, n_gl, k_p, k_e, k_l, k_g, j_p, j_e, j_l, j_g, putD, asgN, slD, dep]⟩
    generalize dn p1 _ = p2 at e2
    refine ⟨t', w1, by simp [evSs, evS, evE, evEs, evB, evC, evO, evP, evI, callD, argSl, argSls, bors, wb, frz, frzs, sees, R.see, lockS, unlockS, asgR, retR, setD, asgT, unlockO, backA, endF, nIf, nIfs, isAnd, truD, RD.r, binO, binD, cmpR, cmpO, isVl, cmpD, biO, biD, ixD, Mn.Loc, keyD, keyD0, meD, recv, gtD, apD, isObj, runC, evF, tyN, ↓evS_fr, ↓evS_frt, ↓evE_lc, L2.atI, L2.ixN, big, asgS_if, nl_un, nl_val, nl_own, q_pp, q_ep, q_ee, q_lp, q_gp, q_le, q_ge, q_ll, q_gl, eq_ii, wd_f, wd_t, n_pe, n_pl, n_pg, n_ep, n_el, n_eg, n_lp, n_le, n_lg, n_gp, n_ge, n_gl, k_p, k_e, k_l, k_g, j_p, j_e, j_l, j_g, putD, asgN, slD, dep]; exact w2, p2, ?_⟩
    generalize tmD t' = dd at e2 ⊢
    simp [evSs, evS, evE, evEs, evB, evC, evO, evP, evI, callD, argSl, argSls, bors, wb, frz, frzs, sees, R.see, lockS, unlockS, asgR, retR, setD, asgT, unlockO, backA, endF, nIf, nIfs, isAnd, truD, RD.r, binO, binD, cmpR, cmpO, isVl, cmpD, biO, biD, ixD, Mn.Loc, keyD, keyD0, meD, recv, gtD, apD, isObj, runC, evF, tyN, ↓evS_fr, ↓evS_frt, ↓evE_lc, L2.atI, L2.ixN, big, asgS_if, nl_un, nl_val, nl_own, q_pp, q_ep, q_ee, q_lp, q_gp, q_le, q_ge, q_ll, q_gl, eq_ii, wd_f, wd_t, n_pe, n_pl, n_pg, n_ep, n_el, n_eg, n_lp, n_le, n_lg, n_gp, n_ge, n_gl, k_p, k_e, k_l, k_g, j_p, j_e, j_l, j_g, putD, asgN, slD, tmD, tmDs] at e2
    simp [evSs, evS, evE, evEs, evB, evC, evO, evP, evI, callD, argSl, argSls, bors, wb, frz, frzs, sees, R.see, lockS, unlockS, asgR, retR, setD, asgT, unlockO, backA, endF, nIf, nIfs, isAnd, truD, RD.r, binO, binD, cmpR, cmpO, isVl, cmpD, biO, biD, ixD, Mn.Loc, keyD, keyD0, meD, recv, gtD, apD, isObj, runC, evF, tyN, ↓evS_fr, ↓evS_frt, ↓evE_lc, L2.atI, L2.ixN, big, asgS_if, nl_un, nl_val, nl_own, q_pp, q_ep, q_ee, q_lp, q_gp, q_le, q_ge, q_ll, q_gl, eq_ii, wd_f, wd_t, n_pe, n_pl, n_pg, n_ep, n_el, n_eg, n_lp, n_le, n_lg, n_gp, n_ge, n_gl, k_p, k_e, k_l, k_g, j_p, j_e, j_l, j_g, putD, asgN, slD, fn17, b36, tmD, e1, e2]
  | @en x hx =>
    intro n hn p xs ok
    obtain ⟨k, rfl⟩ : ∃ k, n = k + 3 := ⟨n - 3, by omega⟩
    rcases hx with rfl | rfl
    · exact ⟨.en "top", .en (.inr rfl), by simp [evSs, evS, evE, evEs, evB, evC, evO, evP, evI, callD, argSl, argSls, bors, wb, frz, frzs, sees, R.see, lockS, unlockS, asgR, retR, setD, asgT, unlockO, backA, endF, nIf, nIfs, isAnd, truD, RD.r, binO, binD, cmpR, cmpO, isVl, cmpD, biO, biD, ixD, Mn.Loc, keyD, keyD0, meD, recv, gtD, apD, isObj, runC, evF, tyN, ↓evS_fr, ↓evS_frt, ↓evE_lc, L2.atI, L2.ixN, big, asgS_if, nl_un, nl_val, nl_own, q_pp, q_ep, q_ee, q_lp, q_gp, q_le, q_ge, q_ll, q_gl, eq_ii, wd_f, wd_t, n_pe, n_pl, n_pg, n_ep, n_el, n_eg, n_lp, n_le, n_lg, n_gp, n_ge, n_gl, k_p, k_e, k_l, k_g, j_p, j_e, j_l, j_g, putD, asgN, slD, dep], p, by simp [evSs, evS, evE, evEs, evB, evC, evO, evP, evI, callD, argSl, argSls, bors, wb, frz, frzs, sees, R.see, lockS, unlockS, asgR, retR, setD, asgT, unlockO, backA, endF, nIf, nIfs, isAnd, truD, RD.r, binO, binD, cmpR, cmpO, isVl, cmpD, biO, biD, ixD, Mn.Loc, keyD, keyD0, meD, recv, gtD, apD, isObj, runC, evF, tyN, ↓evS_fr, ↓evS_frt, ↓evE_lc, L2.atI, L2.ixN, big, asgS_if, nl_un, nl_val, nl_own, q_pp, q_ep, q_ee, q_lp, q_gp, q_le, q_ge, q_ll, q_gl, eq_ii, wd_f, wd_t, n_pe, n_pl, n_pg, n_ep, n_el, n_eg, n_lp, n_le, n_lg, n_gp, n_ge, n_gl, k_p, k_e, k_l, k_g, j_p, j_e, j_l, j_g, putD, asgN, slD, fn17, b36, tmD, n_bt, n_tb]⟩
    · exact ⟨.en "bottom", .en (.inl rfl), by simp [evSs, evS, evE, evEs, evB, evC, evO, evP, evI, callD, argSl, argSls, bors, wb, frz, frzs, sees, R.see, lockS, unlockS, asgR, retR, setD, asgT, unlockO, backA, endF, nIf, nIfs, isAnd, truD, RD.r, binO, binD, cmpR, cmpO, isVl, cmpD, biO, biD, ixD, Mn.Loc, keyD, keyD0, meD, recv, gtD, apD, isObj, runC, evF, tyN, ↓evS_fr, ↓evS_frt, ↓evE_lc, L2.atI, L2.ixN, big, asgS_if, nl_un, nl_val, nl_own, q_pp, q_ep, q_ee, q_lp, q_gp, q_le, q_ge, q_ll, q_gl, eq_ii, wd_f, wd_t, n_pe, n_pl, n_pg, n_ep, n_el, n_eg, n_lp, n_le, n_lg, n_gp, n_ge, n_gl, k_p, k_e, k_l, k_g, j_p, j_e, j_l, j_g, putD, asgN, slD, dep], p, by simp [evSs, evS, evE, evEs, evB, evC, evO, evP, evI, callD, argSl, argSls, bors, wb, frz, frzs, sees, R.see, lockS, unlockS, asgR, retR, setD, asgT, unlockO, backA, endF, nIf, nIfs, isAnd, truD, RD.r, binO, binD, cmpR, cmpO, isVl, cmpD, biO, biD, ixD, Mn.Loc, keyD, keyD0, meD, recv, gtD, apD, isObj, runC, evF, tyN, ↓evS_fr, ↓evS_frt, ↓evE_lc, L2.atI, L2.ixN, big, asgS_if, nl_un, nl_val, nl_own, q_pp, q_ep, q_ee, q_lp, q_gp, q_le, q_ge, q_ll, q_gl, eq_ii, wd_f, wd_t, n_pe, n_pl, n_pg, n_ep, n_el, n_eg, n_lp, n_le, n_lg, n_gp, n_ge, n_gl, k_p, k_e, k_l, k_g, j_p, j_e, j_l, j_g, putD, asgN, slD, fn17, b36, tmD, n_bt, n_tb]⟩
  | @nd g ps hp hl ih =>
    intro n hn p xs ok
    rw [dep] at hn
    obtain ⟨k, rfl⟩ : ∃ k, n = k + 3 := ⟨n - 3, by omega⟩
    have d0 := draw (k+1) p (m := 6) (by decide) (by decide)
    have l1 : (0 : Int) < ps.length := by omega
    have d1 := draw (k+1) (dn p 6) l1 (by omega)
    obtain ⟨q1, q2⟩ := dv_r (dn p 6) l1
    generalize hA : dv (dn p 6) ps.length = a at d1 q1 q2
    generalize dn (dn p 6) ps.length = p2 at d1
    have l3 : a.toNat < ps.length := by omega
    have l4 : a < (ps.length : Int) := q2
    by_cases w3 : dv p 6 < 3
    · obtain ⟨t', w1, w2, p3, e⟩ := ih ps[a.toNat] (List.getElem_mem l3) (k+2) (by have := dep_le (List.getElem_mem l3); omega) p2 ok
      have dt : dep t' ≤ deps ps + 1 := by have := dep_le (List.getElem_mem l3); omega
      refine ⟨.nd g (ps.set a.toNat t'), .nd (fun q hq => ?_) (by rw [List.length_set]; exact hl), ?_, p3, ?_⟩
      · rcases List.mem_or_eq_of_mem_set hq with hq | rfl
        · exact hp q hq
        · exact w1
      · have := deps_set (m := deps ps + 1) dt (ps := ps) a.toNat (by omega)
        rw [dep, dep]
        omega
      · cases g <;> simp [evSs, evS, evE, evEs, evB, evC, evO, evP, evI, callD, argSl, argSls, bors, wb, frz, frzs, sees, R.see, lockS, unlockS, asgR, retR, setD, asgT, unlockO, backA, endF, nIf, nIfs, isAnd, truD, RD.r, binO, binD, cmpR, cmpO, isVl, cmpD, biO, biD, ixD, Mn.Loc, keyD, keyD0, meD, recv, gtD, apD, isObj, runC, evF, tyN, ↓evS_fr, ↓evS_frt, ↓evE_lc, L2.atI, L2.ixN, big, asgS_if, nl_un, nl_val, nl_own, q_pp, q_ep, q_ee, q_lp, q_gp, q_le, q_ge, q_ll, q_gl, eq_ii, wd_f, wd_t, n_pe, n_pl, n_pg, n_ep, n_el, n_eg, n_lp, n_le, n_lg, n_gp, n_ge, n_gl, k_p, k_e, k_l, k_g, j_p, j_e, j_l, j_g, putD, asgN, slD, fn17, b36, tmD, tmDs_map, d0, d1, w3, q1, l4, l3, e, List.map_set]
    · by_cases w4 : dv p 6 = 3
      · refine ⟨.nd (!g) ps, .nd hp hl, by rw [dep, dep]; omega, p2, ?_⟩
        cases g <;> simp [evSs, evS, evE, evEs, evB, evC, evO, evP, evI, callD, argSl, argSls, bors, wb, frz, frzs, sees, R.see, lockS, unlockS, asgR, retR, setD, asgT, unlockO, backA, endF, nIf, nIfs, isAnd, truD, RD.r, binO, binD, cmpR, cmpO, isVl, cmpD, biO, biD, ixD, Mn.Loc, keyD, keyD0, meD, recv, gtD, apD, isObj, runC, evF, tyN, ↓evS_fr, ↓evS_frt, ↓evE_lc, L2.atI, L2.ixN, big, asgS_if, nl_un, nl_val, nl_own, q_pp, q_ep, q_ee, q_lp, q_gp, q_le, q_ge, q_ll, q_gl, eq_ii, wd_f, wd_t, n_pe, n_pl, n_pg, n_ep, n_el, n_eg, n_lp, n_le, n_lg, n_gp, n_ge, n_gl, k_p, k_e, k_l, k_g, j_p, j_e, j_l, j_g, putD, asgN, slD, fn17, b36, tmD, tmDs_map, d0, d1, w4]
      · by_cases w5 : dv p 6 = 4 ∧ ps.length < 4
        · have c1 := cut_to (ps.map tmD) (z := a) q1
          have c2 := cut_from (ps.map tmD) (z := a) q1 (by simp [evSs, evS, evE, evEs, evB, evC, evO, evP, evI, callD, argSl, argSls, bors, wb, frz, frzs, sees, R.see, lockS, unlockS, asgR, retR, setD, asgT, unlockO, backA, endF, nIf, nIfs, isAnd, truD, RD.r, binO, binD, cmpR, cmpO, isVl, cmpD, biO, biD, ixD, Mn.Loc, keyD, keyD0, meD, recv, gtD, apD, isObj, runC, evF, tyN, ↓evS_fr, ↓evS_frt, ↓evE_lc, L2.atI, L2.ixN, big, asgS_if, nl_un, nl_val, nl_own, q_pp, q_ep, q_ee, q_lp, q_gp, q_le, q_ge, q_ll, q_gl, eq_ii, wd_f, wd_t, n_pe, n_pl, n_pg, n_ep, n_el, n_eg, n_lp, n_le, n_lg, n_gp, n_ge, n_gl, k_p, k_e, k_l, k_g, j_p, j_e, j_l, j_g, putD, asgN, slD]; omega)
          have e5 : dv p 6 = 4 := w5.1
          have e6 : (ps.length : Int) < 4 := by have := w5.2; omega
          refine ⟨.nd g (ps.take a.toNat ++ [ps[a.toNat]] ++ ps.drop a.toNat), .nd (fun q hq => ?_) ?_, ?_, p2, ?_⟩
          · simp only [List.mem_append, List.mem_cons, List.not_mem_nil, or_false] at hq
            rcases hq with (hq | rfl) | hq
            · exact hp q (List.mem_of_mem_take hq)
            · exact hp _ (List.getElem_mem l3)
            · exact hp q (List.mem_of_mem_drop hq)
          · simp [evSs, evS, evE, evEs, evB, evC, evO, evP, evI, callD, argSl, argSls, bors, wb, frz, frzs, sees, R.see, lockS, unlockS, asgR, retR, setD, asgT, unlockO, backA, endF, nIf, nIfs, isAnd, truD, RD.r, binO, binD, cmpR, cmpO, isVl, cmpD, biO, biD, ixD, Mn.Loc, keyD, keyD0, meD, recv, gtD, apD, isObj, runC, evF, tyN, ↓evS_fr, ↓evS_frt, ↓evE_lc, L2.atI, L2.ixN, big, asgS_if, nl_un, nl_val, nl_own, q_pp, q_ep, q_ee, q_lp, q_gp, q_le, q_ge, q_ll, q_gl, eq_ii, wd_f, wd_t, n_pe, n_pl, n_pg, n_ep, n_el, n_eg, n_lp, n_le, n_lg, n_gp, n_ge, n_gl, k_p, k_e, k_l, k_g, j_p, j_e, j_l, j_g, putD, asgN, slD]
            omega
          · have := deps_le (m := deps ps) (ts := ps.take a.toNat ++ [ps[a.toNat]] ++ ps.drop a.toNat) fun q hq => by
              simp only [List.mem_append, List.mem_cons, List.not_mem_nil, or_false] at hq
              rcases hq with (hq | rfl) | hq
              · exact dep_le (List.mem_of_mem_take hq)
              · exact dep_le (List.getElem_mem l3)
              · exact dep_le (List.mem_of_mem_drop hq)
            rw [dep, dep]
            omega
          · have b1 : min a.toNat ps.length + 1 ≤ 1000000 := by omega
            have b2 : min a.toNat ps.length + (ps.length - a.toNat + 1) ≤ 1000000 := by omega
            have b3 : min a.toNat ps.length + 1 + (ps.length - a.toNat) ≤ 1000000 := by omega
            have l5 : a.toNat < (ps.map tmD).length := by simpa using l3
            cases g <;> (simp [evSs, evS, evE, evEs, evB, evC, evO, evP, evI, callD, argSl, argSls, bors, wb, frz, frzs, sees, R.see, lockS, unlockS, asgR, retR, setD, asgT, unlockO, backA, endF, nIf, nIfs, isAnd, truD, RD.r, binO, binD, cmpR, cmpO, isVl, cmpD, biO, biD, ixD, Mn.Loc, keyD, keyD0, meD, recv, gtD, apD, isObj, runC, evF, tyN, ↓evS_fr, ↓evS_frt, ↓evE_lc, L2.atI, L2.ixN, big, asgS_if, nl_un, nl_val, nl_own, q_pp, q_ep, q_ee, q_lp, q_gp, q_le, q_ge, q_ll, q_gl, eq_ii, wd_f, wd_t, n_pe, n_pl, n_pg, n_ep, n_el, n_eg, n_lp, n_le, n_lg, n_gp, n_ge, n_gl, k_p, k_e, k_l, k_g, j_p, j_e, j_l, j_g, putD, asgN, slD, fn17, b36, tmD, tmDs_map, d0, d1, e5, e6, q1, l4, l3, c1, c2, b1, b2, b3, List.map_take, List.map_drop]; rw [← List.take_append_getElem l5, List.append_assoc, List.getElem_map]; rfl)
        · have w6 : dv p 6 = 4 → ¬ (ps.length : Int) < 4 := fun z z2 => w5 ⟨z, by omega⟩
          refine ⟨.nd g ps.reverse, .nd (fun q hq => hp q (List.mem_reverse.mp hq)) (by rw [List.length_reverse]; exact hl), ?_, p2, ?_⟩
          · have := deps_le (m := deps ps) (ts := ps.reverse) fun q hq => dep_le (List.mem_reverse.mp hq)
            rw [dep, dep]
            omega
          · by_cases z : dv p 6 = 4
            · have z2 := w6 z
              cases g <;> simp [evSs, evS, evE, evEs, evB, evC, evO, evP, evI, callD, argSl, argSls, bors, wb, frz, frzs, sees, R.see, lockS, unlockS, asgR, retR, setD, asgT, unlockO, backA, endF, nIf, nIfs, isAnd, truD, RD.r, binO, binD, cmpR, cmpO, isVl, cmpD, biO, biD, ixD, Mn.Loc, keyD, keyD0, meD, recv, gtD, apD, isObj, runC, evF, tyN, ↓evS_fr, ↓evS_frt, ↓evE_lc, L2.atI, L2.ixN, big, asgS_if, nl_un, nl_val, nl_own, q_pp, q_ep, q_ee, q_lp, q_gp, q_le, q_ge, q_ll, q_gl, eq_ii, wd_f, wd_t, n_pe, n_pl, n_pg, n_ep, n_el, n_eg, n_lp, n_le, n_lg, n_gp, n_ge, n_gl, k_p, k_e, k_l, k_g, j_p, j_e, j_l, j_g, putD, asgN, slD, fn17, b36, tmD, tmDs_map, d0, d1, z, z2, List.map_reverse]
            · cases g <;> simp [evSs, evS, evE, evEs, evB, evC, evO, evP, evI, callD, argSl, argSls, bors, wb, frz, frzs, sees, R.see, lockS, unlockS, asgR, retR, setD, asgT, unlockO, backA, endF, nIf, nIfs, isAnd, truD, RD.r, binO, binD, cmpR, cmpO, isVl, cmpD, biO, biD, ixD, Mn.Loc, keyD, keyD0, meD, recv, gtD, apD, isObj, runC, evF, tyN, ↓evS_fr, ↓evS_frt, ↓evE_lc, L2.atI, L2.ixN, big, asgS_if, nl_un, nl_val, nl_own, q_pp, q_ep, q_ee, q_lp, q_gp, q_le, q_ge, q_ll, q_gl, eq_ii, wd_f, wd_t, n_pe, n_pl, n_pg, n_ep, n_el, n_eg, n_lp, n_le, n_lg, n_gp, n_ge, n_gl, k_p, k_e, k_l, k_g, j_p, j_e, j_l, j_g, putD, asgN, slD, fn17, b36, tmD, tmDs_map, d0, d1, w3, w4, z, List.map_reverse]
end K13

-- P13n
set_option Elab.async false
set_option linter.all false
set_option maxRecDepth 100000
set_option maxHeartbeats 4000000
set_option autoImplicit false
namespace K13
open PySem Mn
section
variable (cf : Nat → List Sl → Option CO)
theorem co_ss (x y : Str) : cmpO cf gd .Eq (.str x) (.str y) = eqD (.str x) (.str y) := rfl
theorem cn_ss (x y : Str) : cmpO cf gd .NotEq (.str x) (.str y) = (eqD (.str x) (.str y)).map (!·) := rfl
theorem co_mm (t u : Tm) : cmpO cf gd .Eq (tmD t) (tmD u) = eqD (tmD t) (tmD u) := by
  cases t <;> cases u <;> (simp only [tmD]; rfl)
theorem cn_mm (t u : Tm) : cmpO cf gd .NotEq (tmD t) (tmD u) = (eqD (tmD t) (tmD u)).map (!·) := by
  cases t <;> cases u <;> (simp only [tmD]; rfl)
theorem co_tt (t : Tm) (y : D) : cmpO cf gd .Eq (obD t) y = eqO cf gd (obD t) y := by
  unfold cmpO
  dsimp only
  rw [ob_t, if_pos rfl]
theorem cn_tt (t : Tm) (y : D) : cmpO cf gd .NotEq (obD t) y = (eqO cf gd (obD t) y).map (!·) := by
  unfold cmpO
  dsimp only
  rw [ob_t, if_pos rfl]
theorem co_dt {d : D} (h : isObj d = false) (h2 : (tyN d).isSome = true) (t : Tm) : cmpO cf gd .Eq d (obD t) = eqO cf gd (obD t) d := by
  unfold cmpO
  dsimp only
  rw [ob_t, h, h2]
  rfl
theorem bo_len (ds : List D) : biO cf gd .len ds = biD .len ds := by cases ds <;> rfl
theorem bo_any (ds : List D) : biO cf gd .any ds = biD .any ds := by cases ds <;> rfl
theorem bo_all (ds : List D) : biO cf gd .all ds = biD .all ds := by cases ds <;> rfl
theorem bo_max (ds : List D) : biO cf gd .max ds = biD .max ds := by cases ds <;> rfl
theorem bo_min (ds : List D) : biO cf gd .min ds = biD .min ds := by cases ds <;> rfl
theorem bo_rl (xs : List D) : biO cf gd .repr [.lst xs] = biD .repr [.lst xs] := rfl
theorem bb_l (op : Operator) (xs : List D) (y : D) : binO cf gd op (.lst xs) y = binD op (.lst xs) y := rfl
theorem bb_i (op : Operator) (i : Int) (y : D) : binO cf gd op (.int i) y = binD op (.int i) y := rfl
end
/-- a loop over pairs whose body changes nothing -/
theorem frT2 {α : Type} {np : Nat × Nat} {fb : List Sl → Option SO} {x y : Nat} (S : Sl → Sl → List Sl) (F G : α → D) (hx : ∀ s s' d, nlk s = true → asgS np x (.val d) (S s s') = some (S (.val d) s')) (hy : ∀ s s' d, nlk s' = true → asgS np y (.val d) (S s s') = some (S s (.val d))) : ∀ (ts : List α) (s s' : Sl), nlk s = true → nlk s' = true →
    (∀ t ∈ ts, fb (S (.val (F t)) (.val (G t))) = some (.nx (S (.val (F t)) (.val (G t))))) → ∃ s1 s2, frL2 np fb x y (ts.map fun t => .tup [F t, G t]) (S s s') = some (.nx (S s1 s2))
  | [], s, s', _, _, _ => ⟨s, s', rfl⟩
  | t :: ts, s, s', h1, h2, he => by
    have e1 := he t (by simp [evSs, evS, evE, evEs, evB, evC, evO, evP, evI, callD, argSl, argSls, bors, wb, frz, frzs, sees, R.see, lockS, unlockS, asgR, retR, setD, asgT, unlockO, backA, endF, nIf, nIfs, isAnd, truD, RD.r, binD, cmpR, isVl, cmpD, biD, ixD, Mn.Loc, keyD, keyD0, meD, recv, gtD, apD, isObj, runC, evF, tyN, ↓evS_fr, ↓evS_frt, ↓evE_lc, L2.atI, L2.ixN, big, asgS_if, nl_un, nl_val, nl_own, q_pp, q_ep, q_ee, q_lp, q_gp, q_le, q_ge, q_ll, q_gl, eq_ii, wd_f, wd_t, co_ss, cn_ss, co_mm, cn_mm, co_tt, cn_tt, bo_len, bo_any, bo_all, bo_max, bo_min, bo_rl, bb_l, bb_i])
    obtain ⟨s1, s2, e⟩ := frT2 S F G hx hy ts (.val (F t)) (.val (G t)) rfl rfl (fun u hu => he u (by simp [evSs, evS, evE, evEs, evB, evC, evO, evP, evI, callD, argSl, argSls, bors, wb, frz, frzs, sees, R.see, lockS, unlockS, asgR, retR, setD, asgT, unlockO, backA, endF, nIf, nIfs, isAnd, truD, RD.r, binD, cmpR, isVl, cmpD, biD, ixD, Mn.Loc, keyD, keyD0, meD, recv, gtD, apD, isObj, runC, evF, tyN, ↓evS_fr, ↓evS_frt, ↓evE_lc, L2.atI, L2.ixN, big, asgS_if, nl_un, nl_val, nl_own, q_pp, q_ep, q_ee, q_lp, q_gp, q_le, q_ge, q_ll, q_gl, eq_ii, wd_f, wd_t, co_ss, cn_ss, co_mm, cn_mm, co_tt, cn_tt, bo_len, bo_any, bo_all, bo_max, bo_min, bo_rl, bb_l, bb_i, hu]))
    refine ⟨s1, s2, ?_⟩
    rw [List.map_cons, frL2, hx _ _ _ h1]
    simp only [hy _ _ _ h2, e1]
    exact e
theorem wf2 {g : Bool} {a b : Tm} (ha : Wf a) (hb : Wf b) : Wf (.nd g [a, b]) := .nd (fun p hp => by
  simp [evSs, evS, evE, evEs, evB, evC, evO, evP, evI, callD, argSl, argSls, bors, wb, frz, frzs, sees, R.see, lockS, unlockS, asgR, retR, setD, asgT, unlockO, backA, endF, nIf, nIfs, isAnd, truD, RD.r, binD, cmpR, isVl, cmpD, biD, ixD, Mn.Loc, keyD, keyD0, meD, recv, gtD, apD, isObj, runC, evF, tyN, ↓evS_fr, ↓evS_frt, ↓evE_lc, L2.atI, L2.ixN, big, asgS_if, nl_un, nl_val, nl_own, q_pp, q_ep, q_ee, q_lp, q_gp, q_le, q_ge, q_ll, q_gl, eq_ii, wd_f, wd_t, co_ss, cn_ss, co_mm, cn_mm, co_tt, cn_tt, bo_len, bo_any, bo_all, bo_max, bo_min, bo_rl, bb_l, bb_i] at hp
  rcases hp with rfl | rfl
  · exact ha
  · exact hb) (by simp [evSs, evS, evE, evEs, evB, evC, evO, evP, evI, callD, argSl, argSls, bors, wb, frz, frzs, sees, R.see, lockS, unlockS, asgR, retR, setD, asgT, unlockO, backA, endF, nIf, nIfs, isAnd, truD, RD.r, binD, cmpR, isVl, cmpD, biD, ixD, Mn.Loc, keyD, keyD0, meD, recv, gtD, apD, isObj, runC, evF, tyN, ↓evS_fr, ↓evS_frt, ↓evE_lc, L2.atI, L2.ixN, big, asgS_if, nl_un, nl_val, nl_own, q_pp, q_ep, q_ee, q_lp, q_gp, q_le, q_ge, q_ll, q_gl, eq_ii, wd_f, wd_t, co_ss, cn_ss, co_mm, cn_mm, co_tt, cn_tt, bo_len, bo_any, bo_all, bo_max, bo_min, bo_rl, bb_l, bb_i])
theorem bq (x : Str) : (x == x) = true := by simp [evSs, evS, evE, evEs, evB, evC, evO, evP, evI, callD, argSl, argSls, bors, wb, frz, frzs, sees, R.see, lockS, unlockS, asgR, retR, setD, asgT, unlockO, backA, endF, nIf, nIfs, isAnd, truD, RD.r, binD, cmpR, isVl, cmpD, biD, ixD, Mn.Loc, keyD, keyD0, meD, recv, gtD, apD, isObj, runC, evF, tyN, ↓evS_fr, ↓evS_frt, ↓evE_lc, L2.atI, L2.ixN, big, asgS_if, nl_un, nl_val, nl_own, q_pp, q_ep, q_ee, q_lp, q_gp, q_le, q_ge, q_ll, q_gl, eq_ii, wd_f, wd_t, co_ss, cn_ss, co_mm, cn_mm, co_tt, cn_tt, bo_len, bo_any, bo_all, bo_max, bo_min, bo_rl, bb_l, bb_i]
theorem signs (k : Nat) {t o : Tm} (ht : Wf t) (ho : Wf o) (dt : dep t ≤ 3) (do_ : dep o ≤ 2) : rn (k+13) 18 [.val (obD t), .val (tmD t), .val (tmD o)] = some (.ret (.val (.bl true)) [.val (obD t), .val (tmD t), .val (tmD o)]) := by
  have e0 := real ho (k+12) (by omega)
  have a1 : binO (rn (k+12)) gd .BitAnd (obD t) (obD o) = _ := r_and t o (k+7)
  have a2 : binO (rn (k+12)) gd .BitOr (obD o) (obD t) = _ := r_or o t (k+7)
  have a3 : binO (rn (k+12)) gd .BitAnd (obD (.nd false [t, o])) (obD t) = _ := r_and (.nd false [t, o]) t (k+7)
  have a4 : binO (rn (k+12)) gd .BitAnd (obD o) (obD o) = _ := r_and o o (k+7)
  have a5 : binO (rn (k+12)) gd .BitOr (obD t) (obD (.nd false [o, o])) = _ := r_or t (.nd false [o, o]) (k+7)
  have dl : ∀ g a b, dep (.nd g [a, b]) = max (dep a) (dep b) + 1 := fun g a b => by simp [evSs, evS, evE, evEs, evB, evC, evO, evP, evI, callD, argSl, argSls, bors, wb, frz, frzs, sees, R.see, lockS, unlockS, asgR, retR, setD, asgT, unlockO, backA, endF, nIf, nIfs, isAnd, truD, RD.r, binD, cmpR, isVl, cmpD, biD, ixD, Mn.Loc, keyD, keyD0, meD, recv, gtD, apD, isObj, runC, evF, tyN, ↓evS_fr, ↓evS_frt, ↓evE_lc, L2.atI, L2.ixN, big, asgS_if, nl_un, nl_val, nl_own, q_pp, q_ep, q_ee, q_lp, q_gp, q_le, q_ge, q_ll, q_gl, eq_ii, wd_f, wd_t, co_ss, cn_ss, co_mm, cn_mm, co_tt, cn_tt, bo_len, bo_any, bo_all, bo_max, bo_min, bo_rl, bb_l, bb_i, dep, deps]
  have w1 : Wf (.nd false [t, o]) := wf2 ht ho
  have w2 : Wf (.nd true [o, t]) := wf2 ho ht
  have w3 : Wf (.nd false [.nd false [t, o], t]) := wf2 w1 ht
  have w4 : Wf (.nd true [t, .nd false [o, o]]) := wf2 ht (wf2 ho ho)
  have s1 := r_str ht (by omega) (n := k+12) (by omega)
  have s2 := r_str ho (by omega) (n := k+12) (by omega)
  have x1 := text ht (by omega) (k+12) (by omega)
  have x2 := text ho (by omega) (k+12) (by omega)
  have q1 := eq_ss (oks ht).1 (oks ht).1
  have q2 := eq_ss (oks ho).1 (oks ho).1
  have ms : ∀ m ∈ [Tm.nd false [t, o], .nd true [o, t], .nd false [.nd false [t, o], t], .nd true [t, .nd false [o, o]]], Wf m ∧ dep m ≤ 5 := by
    intro m hm
    simp only [List.mem_cons, List.not_mem_nil, or_false] at hm
    rcases hm with rfl | rfl | rfl | rfl
    · exact ⟨w1, by rw [dl]; omega⟩
    · exact ⟨w2, by rw [dl]; omega⟩
    · exact ⟨w3, by rw [dl, dl]; omega⟩
    · exact ⟨w4, by rw [dl, dl]; omega⟩
  simp [evSs, evS, evE, evEs, evB, evC, evO, evP, evI, callD, argSl, argSls, bors, wb, frz, frzs, sees, R.see, lockS, unlockS, asgR, retR, setD, asgT, unlockO, backA, endF, nIf, nIfs, isAnd, truD, RD.r, binD, cmpR, isVl, cmpD, biD, ixD, Mn.Loc, keyD, keyD0, meD, recv, gtD, apD, isObj, runC, evF, tyN, ↓evS_fr, ↓evS_frt, ↓evE_lc, L2.atI, L2.ixN, big, asgS_if, nl_un, nl_val, nl_own, q_pp, q_ep, q_ee, q_lp, q_gp, q_le, q_ge, q_ll, q_gl, eq_ii, wd_f, wd_t, co_ss, cn_ss, co_mm, cn_mm, co_tt, cn_tt, bo_len, bo_any, bo_all, bo_max, bo_min, bo_rl, bb_l, bb_i, fn18, b37, e0, a1, a2, a3, a4, a5]
  generalize hb : lpS (rn (k+12)) tf gd (3, 7) _ = fb
  obtain ⟨u1, u2, e⟩ := frT2 (np := (3, 7)) (fb := fb) (x := 5) (y := 6) (fun a b => [.val (obD t), .val (tmD t), .val (tmD o), .val (obD o), .lock ([Tm.nd false [t, o], .nd true [o, t], .nd false [.nd false [t, o], t], .nd true [t, .nd false [o, o]]].map fun m => D.tup [obD m, tmD m]), a, b]) obD tmD
    (fun s s' d h => by simp [evSs, evS, evE, evEs, evB, evC, evO, evP, evI, callD, argSl, argSls, bors, wb, frz, frzs, sees, R.see, lockS, unlockS, asgR, retR, setD, asgT, unlockO, backA, endF, nIf, nIfs, isAnd, truD, RD.r, binD, cmpR, isVl, cmpD, biD, ixD, Mn.Loc, keyD, keyD0, meD, recv, gtD, apD, isObj, runC, evF, tyN, ↓evS_fr, ↓evS_frt, ↓evE_lc, L2.atI, L2.ixN, big, asgS_if, nl_un, nl_val, nl_own, q_pp, q_ep, q_ee, q_lp, q_gp, q_le, q_ge, q_ll, q_gl, eq_ii, wd_f, wd_t, co_ss, cn_ss, co_mm, cn_mm, co_tt, cn_tt, bo_len, bo_any, bo_all, bo_max, bo_min, bo_rl, bb_l, bb_i, h]) (fun s s' d h => by simp [evSs, evS, evE, evEs, evB, evC, evO, evP, evI, callD, argSl, argSls, bors, wb, frz, frzs, sees, R.see, lockS, unlockS, asgR, retR, setD, asgT, unlockO, backA, endF, nIf, nIfs, isAnd, truD, RD.r, binD, cmpR, isVl, cmpD, biD, ixD, Mn.Loc, keyD, keyD0, meD, recv, gtD, apD, isObj, runC, evF, tyN, ↓evS_fr, ↓evS_frt, ↓evE_lc, L2.atI, L2.ixN, big, asgS_if, nl_un, nl_val, nl_own, q_pp, q_ep, q_ee, q_lp, q_gp, q_le, q_ge, q_ll, q_gl, eq_ii, wd_f, wd_t, co_ss, cn_ss, co_mm, cn_mm, co_tt, cn_tt, bo_len, bo_any, bo_all, bo_max, bo_min, bo_rl, bb_l, bb_i, h])
    [Tm.nd false [t, o], .nd true [o, t], .nd false [.nd false [t, o], t], .nd true [t, .nd false [o, o]]] .un .un rfl rfl (fun m hm => by
      obtain ⟨wm, dm⟩ := ms m hm
      have r1 := r_str wm dm (n := k+12) (by omega)
      have r2 := r_rep wm dm (n := k+12) (by omega)
      have r3 := text wm dm (k+12) (by omega)
      have r4 := written wm dm (k+12) (by omega)
      have r5 := real wm (k+12) (by omega)
      have r6 := r_eq wm dm wm dm (n := k+12) (by omega) (by omega)
      subst hb
      simp [evSs, evS, evE, evEs, evB, evC, evO, evP, evI, callD, argSl, argSls, bors, wb, frz, frzs, sees, R.see, lockS, unlockS, asgR, retR, setD, asgT, unlockO, backA, endF, nIf, nIfs, isAnd, truD, RD.r, binD, cmpR, isVl, cmpD, biD, ixD, Mn.Loc, keyD, keyD0, meD, recv, gtD, apD, isObj, runC, evF, tyN, ↓evS_fr, ↓evS_frt, ↓evE_lc, L2.atI, L2.ixN, big, asgS_if, nl_un, nl_val, nl_own, q_pp, q_ep, q_ee, q_lp, q_gp, q_le, q_ge, q_ll, q_gl, eq_ii, wd_f, wd_t, co_ss, cn_ss, co_mm, cn_mm, co_tt, cn_tt, bo_len, bo_any, bo_all, bo_max, bo_min, bo_rl, bb_l, bb_i, lpS, r1, r2, r3, r4, r5, r6, eq_ss (oks wm).1 (oks wm).1, eq_ss (oks wm).2 (oks wm).2])
  simp [evSs, evS, evE, evEs, evB, evC, evO, evP, evI, callD, argSl, argSls, bors, wb, frz, frzs, sees, R.see, lockS, unlockS, asgR, retR, setD, asgT, unlockO, backA, endF, nIf, nIfs, isAnd, truD, RD.r, binD, cmpR, isVl, cmpD, biD, ixD, Mn.Loc, keyD, keyD0, meD, recv, gtD, apD, isObj, runC, evF, tyN, ↓evS_fr, ↓evS_frt, ↓evE_lc, L2.atI, L2.ixN, big, asgS_if, nl_un, nl_val, nl_own, q_pp, q_ep, q_ee, q_lp, q_gp, q_le, q_ge, q_ll, q_gl, eq_ii, wd_f, wd_t, co_ss, cn_ss, co_mm, cn_mm, co_tt, cn_tt, bo_len, bo_any, bo_all, bo_max, bo_min, bo_rl, bb_l, bb_i, tmD, tmDs] at e
  simp [evSs, evS, evE, evEs, evB, evC, evO, evP, evI, callD, argSl, argSls, bors, wb, frz, frzs, sees, R.see, lockS, unlockS, asgR, retR, setD, asgT, unlockO, backA, endF, nIf, nIfs, isAnd, truD, RD.r, binD, cmpR, isVl, cmpD, biD, ixD, Mn.Loc, keyD, keyD0, meD, recv, gtD, apD, isObj, runC, evF, tyN, ↓evS_fr, ↓evS_frt, ↓evE_lc, L2.atI, L2.ixN, big, asgS_if, nl_un, nl_val, nl_own, q_pp, q_ep, q_ee, q_lp, q_gp, q_le, q_ge, q_ll, q_gl, eq_ii, wd_f, wd_t, co_ss, cn_ss, co_mm, cn_mm, co_tt, cn_tt, bo_len, bo_any, bo_all, bo_max, bo_min, bo_rl, bb_l, bb_i, tmD, tmDs, e, s1, s2, x1, x2, q1, q2]

end K13

-- P13o
set_option Elab.async false
set_option linter.all false
set_option maxRecDepth 100000
set_option maxHeartbeats 4000000
set_option autoImplicit false
namespace K13
open PySem Mn
theorem frS {α σ : Type} {np : Nat × Nat} {fb : List Sl → Option SO} {x : Nat} (S : σ → List Sl) (I : σ → Prop) (F : α → D) : ∀ (ts : List α), (∀ t ∈ ts, ∀ c, I c → ∃ δ1 c', asgS np x (.val (F t)) (S c) = some δ1 ∧ fb δ1 = some (.nx (S c')) ∧ I c') → ∀ c, I c → ∃ c', I c' ∧ frL np fb x (ts.map F) (S c) = some (.nx (S c'))
  | [], _, c, h => ⟨c, h, rfl⟩
  | t :: ts, he, c, h => by
    obtain ⟨δ1, c1, e1, e2, h1⟩ := he t (by simp [evSs, evS, evE, evEs, evB, evC, evO, evP, evI, callD, argSl, argSls, bors, wb, frz, frzs, sees, R.see, lockS, unlockS, asgR, retR, setD, asgT, unlockO, backA, endF, nIf, nIfs, isAnd, truD, RD.r, binD, cmpR, isVl, cmpD, biD, ixD, Mn.Loc, keyD, keyD0, meD, recv, gtD, apD, isObj, runC, evF, tyN, ↓evS_fr, ↓evS_frt, ↓evE_lc, L2.atI, L2.ixN, big, asgS_if, nl_un, nl_val, nl_own, q_pp, q_ep, q_ee, q_lp, q_gp, q_le, q_ge, q_ll, q_gl, eq_ii, wd_f, wd_t, co_ss, cn_ss, co_mm, cn_mm, co_tt, cn_tt, bo_len, bo_any, bo_all, bo_max, bo_min, bo_rl, bb_l, bb_i]) c h
    obtain ⟨c2, h2, e⟩ := frS S I F ts (fun u hu => he u (by simp [evSs, evS, evE, evEs, evB, evC, evO, evP, evI, callD, argSl, argSls, bors, wb, frz, frzs, sees, R.see, lockS, unlockS, asgR, retR, setD, asgT, unlockO, backA, endF, nIf, nIfs, isAnd, truD, RD.r, binD, cmpR, isVl, cmpD, biD, ixD, Mn.Loc, keyD, keyD0, meD, recv, gtD, apD, isObj, runC, evF, tyN, ↓evS_fr, ↓evS_frt, ↓evE_lc, L2.atI, L2.ixN, big, asgS_if, nl_un, nl_val, nl_own, q_pp, q_ep, q_ee, q_lp, q_gp, q_le, q_ge, q_ll, q_gl, eq_ii, wd_f, wd_t, co_ss, cn_ss, co_mm, cn_mm, co_tt, cn_tt, bo_len, bo_any, bo_all, bo_max, bo_min, bo_rl, bb_l, bb_i, hu])) c1 h1
    refine ⟨c2, h2, ?_⟩
    rw [List.map_cons, frL, e1]
    simp only [e2]
    exact e
theorem s3_ok : ∀ a b c : Bool, (D.lst [.bl a, .bl b, .bl c]).shOk = true ∧ (D.lst [.bl a, .bl b, .bl c]).py.showable = true ∧ (D.lst [.bl a, .bl b, .bl c]).py.shown.length ≤ big ∧ (D.lst [.bl a, .bl b, .bl c]).py.depth ≤ 64 ∧ PyData.strOk (D.lst [.bl a, .bl b, .bl c]).py.shown = true := by decide +kernel
theorem s3 (a b c : Bool) : shD (.lst [.bl a, .bl b, .bl c]) = some (.str (D.lst [.bl a, .bl b, .bl c]).py.shown) := by
  obtain ⟨h1, h2, h3, h4, _⟩ := s3_ok a b c
  unfold shD
  rw [h1, h2, decide_eq_true h3, decide_eq_true h4]
  rfl
theorem eq_l2 {a b : Str} (ha : PyData.strOk a = true) (hb : PyData.strOk b = true) : eqD (.lst [.str a, .str b]) (.lst [.str a, .str b]) = some true := by
  simp [evSs, evS, evE, evEs, evB, evC, evO, evP, evI, callD, argSl, argSls, bors, wb, frz, frzs, sees, R.see, lockS, unlockS, asgR, retR, setD, asgT, unlockO, backA, endF, nIf, nIfs, isAnd, truD, RD.r, binD, cmpR, isVl, cmpD, biD, ixD, Mn.Loc, keyD, keyD0, meD, recv, gtD, apD, isObj, runC, evF, tyN, ↓evS_fr, ↓evS_frt, ↓evE_lc, L2.atI, L2.ixN, big, asgS_if, nl_un, nl_val, nl_own, q_pp, q_ep, q_ee, q_lp, q_gp, q_le, q_ge, q_ll, q_gl, eq_ii, wd_f, wd_t, co_ss, cn_ss, co_mm, cn_mm, co_tt, cn_tt, bo_len, bo_any, bo_all, bo_max, bo_min, bo_rl, bb_l, bb_i, eqD, D.eqOk, eqOks, D.py, pys, SeqAt.shaped, PyData.canLay0, PyData.canLayAll0, ha, hb, PyData.depth, PyData.depthAll, PyData.eqv, PyData.eqvAll]
theorem beq_sym (a b : Str) : (a == b) = (b == a) := by
  by_cases h : a = b
  · subst h
    rfl
  · rw [beq_eq_false_iff_ne.mpr h, beq_eq_false_iff_ne.mpr (Ne.symm h)]
theorem asBls_f {α : Type} : ∀ ds : List α, asBls (ds.map fun _ => .bl false) = some (ds.map fun _ => false)
  | [] => rfl
  | d :: ds => by simp [evSs, evS, evE, evEs, evB, evC, evO, evP, evI, callD, argSl, argSls, bors, wb, frz, frzs, sees, R.see, lockS, unlockS, asgR, retR, setD, asgT, unlockO, backA, endF, nIf, nIfs, isAnd, truD, RD.r, binD, cmpR, isVl, cmpD, biD, ixD, Mn.Loc, keyD, keyD0, meD, recv, gtD, apD, isObj, runC, evF, tyN, ↓evS_fr, ↓evS_frt, ↓evE_lc, L2.atI, L2.ixN, big, asgS_if, nl_un, nl_val, nl_own, q_pp, q_ep, q_ee, q_lp, q_gp, q_le, q_ge, q_ll, q_gl, eq_ii, wd_f, wd_t, co_ss, cn_ss, co_mm, cn_mm, co_tt, cn_tt, bo_len, bo_any, bo_all, bo_max, bo_min, bo_rl, bb_l, bb_i, asBls, asBls_f ds]
theorem any_f {α : Type} : ∀ ds : List α, (ds.map fun _ => false).any id = false
  | [] => rfl
  | d :: ds => by simp [evSs, evS, evE, evEs, evB, evC, evO, evP, evI, callD, argSl, argSls, bors, wb, frz, frzs, sees, R.see, lockS, unlockS, asgR, retR, setD, asgT, unlockO, backA, endF, nIf, nIfs, isAnd, truD, RD.r, binD, cmpR, isVl, cmpD, biD, ixD, Mn.Loc, keyD, keyD0, meD, recv, gtD, apD, isObj, runC, evF, tyN, ↓evS_fr, ↓evS_frt, ↓evE_lc, L2.atI, L2.ixN, big, asgS_if, nl_un, nl_val, nl_own, q_pp, q_ep, q_ee, q_lp, q_gp, q_le, q_ge, q_ll, q_gl, eq_ii, wd_f, wd_t, co_ss, cn_ss, co_mm, cn_mm, co_tt, cn_tt, bo_len, bo_any, bo_all, bo_max, bo_min, bo_rl, bb_l, bb_i]
def thg (t : Tm) : List D := [.str (txt t), .str (wr t), .non, .int 0, .str "", .tup [], .lst [obD t], .tup [obD t], .dct [], .str "r0", .str "top"]
theorem thg_ok (t : Tm) : ∀ d ∈ thg t, (tyN d).isSome = true ∧ iscD gd 0 d = some false ∧ isObj d = false := by
  intro d hd
  simp only [thg, List.mem_cons, List.not_mem_nil, or_false] at hd
  rcases hd with rfl | rfl | rfl | rfl | rfl | rfl | rfl | rfl | rfl | rfl | rfl <;> exact ⟨rfl, rfl, rfl⟩
theorem right (k : Nat) (p : Pot) : ∃ p' : Pot, rn (k+14) 19 [.own p.w] = some (.ret (.val (.bl true)) [.own p'.w]) := by
  obtain ⟨xs, x1, x2, x3, p1, e1⟩ := places (k+11) p
  have ok : PlOk xs := ⟨x1, x2, x3⟩
  obtain ⟨t, wt, dt, p2, e2⟩ := term 3 (by omega) (k+13) (by omega) p1 ok
  obtain ⟨o, wo, do_, p3, e3⟩ := term 2 (by omega) (k+13) (by omega) p2 ok
  have e4 := real wt (k+13) (by omega)
  have s1 := r_str wt (by omega) (n := k+13) (by omega)
  have s2 := r_rep wt (by omega) (n := k+13) (by omega)
  have s3' := text wt (by omega) (k+13) (by omega)
  have s4 := written wt (by omega) (k+13) (by omega)
  have q1 := eq_l2 (oks wt).1 (oks wt).2
  have sg := signs k wt wo dt do_
  have hx : xs.map D.str = plD xs := rfl
  simp [evSs, evS, evE, evEs, evB, evC, evO, evP, evI, callD, argSl, argSls, bors, wb, frz, frzs, sees, R.see, lockS, unlockS, asgR, retR, setD, asgT, unlockO, backA, endF, nIf, nIfs, isAnd, truD, RD.r, binD, cmpR, isVl, cmpD, biD, ixD, Mn.Loc, keyD, keyD0, meD, recv, gtD, apD, isObj, runC, evF, tyN, ↓evS_fr, ↓evS_frt, ↓evE_lc, L2.atI, L2.ixN, big, asgS_if, nl_un, nl_val, nl_own, q_pp, q_ep, q_ee, q_lp, q_gp, q_le, q_ge, q_ll, q_gl, eq_ii, wd_f, wd_t, co_ss, cn_ss, co_mm, cn_mm, co_tt, cn_tt, bo_len, bo_any, bo_all, bo_max, bo_min, bo_rl, bb_l, bb_i] at e2 e3
  simp [evSs, evS, evE, evEs, evB, evC, evO, evP, evI, callD, argSl, argSls, bors, wb, frz, frzs, sees, R.see, lockS, unlockS, asgR, retR, setD, asgT, unlockO, backA, endF, nIf, nIfs, isAnd, truD, RD.r, binD, cmpR, isVl, cmpD, biD, ixD, Mn.Loc, keyD, keyD0, meD, recv, gtD, apD, isObj, runC, evF, tyN, ↓evS_fr, ↓evS_frt, ↓evE_lc, L2.atI, L2.ixN, big, asgS_if, nl_un, nl_val, nl_own, q_pp, q_ep, q_ee, q_lp, q_gp, q_le, q_ge, q_ll, q_gl, eq_ii, wd_f, wd_t, co_ss, cn_ss, co_mm, cn_mm, co_tt, cn_tt, bo_len, bo_any, bo_all, bo_max, bo_min, bo_rl, bb_l, bb_i, fn19, b38, e1, hx, e2, e3, e4, s1, s2, s3', s4, q1]
  generalize he : lpE (rn (k+13)) tf gd (.call 17 _ _ _) = fe
  generalize hc : lpC (rn (k+13)) tf gd Es.nil = fc
  obtain ⟨ts, p4, s', h1, h2, h4, h5⟩ := lcP (α := Tm) (σ := Pot) (fe := fe) (fc := fc) (x := 10) (fun c s => [.own c.w, .own (plD xs), .val (tmD t), .val (tmD o), .val (obD t), .own [tmD t, tmD o, .tup [.str "lesser", .lst [tmD t, tmD t]], .tup [.str "greater", .lst [tmD t, tmD t]]], .un, .un, .un, .un, s, .un]) (fun _ _ _ => rfl) tmD (fun u => Wf u ∧ dep u ≤ 4) (fun _ _ => True)
    (fun c d => by subst hc; simp [evSs, evS, evE, evEs, evB, evC, evO, evP, evI, callD, argSl, argSls, bors, wb, frz, frzs, sees, R.see, lockS, unlockS, asgR, retR, setD, asgT, unlockO, backA, endF, nIf, nIfs, isAnd, truD, RD.r, binD, cmpR, isVl, cmpD, biD, ixD, Mn.Loc, keyD, keyD0, meD, recv, gtD, apD, isObj, runC, evF, tyN, ↓evS_fr, ↓evS_frt, ↓evE_lc, L2.atI, L2.ixN, big, asgS_if, nl_un, nl_val, nl_own, q_pp, q_ep, q_ee, q_lp, q_gp, q_le, q_ge, q_ll, q_gl, eq_ii, wd_f, wd_t, co_ss, cn_ss, co_mm, cn_mm, co_tt, cn_tt, bo_len, bo_any, bo_all, bo_max, bo_min, bo_rl, bb_l, bb_i, lpC])
    (fun n c d _ => by
      subst he
      obtain ⟨u, w1, w2, p', e⟩ := bent wt (k+13) (by omega) c ok
      exact ⟨u, p', ⟨w1, by omega⟩, True.intro, by simp [evSs, evS, evE, evEs, evB, evC, evO, evP, evI, callD, argSl, argSls, bors, wb, frz, frzs, sees, R.see, lockS, unlockS, asgR, retR, setD, asgT, unlockO, backA, endF, nIf, nIfs, isAnd, truD, RD.r, binD, cmpR, isVl, cmpD, biD, ixD, Mn.Loc, keyD, keyD0, meD, recv, gtD, apD, isObj, runC, evF, tyN, ↓evS_fr, ↓evS_frt, ↓evE_lc, L2.atI, L2.ixN, big, asgS_if, nl_un, nl_val, nl_own, q_pp, q_ep, q_ee, q_lp, q_gp, q_le, q_ge, q_ll, q_gl, eq_ii, wd_f, wd_t, co_ss, cn_ss, co_mm, cn_mm, co_tt, cn_tt, bo_len, bo_any, bo_all, bo_max, bo_min, bo_rl, bb_l, bb_i, lpE, e]⟩)
    (rngD 0 4) [] p3 .un True.intro (by rw [rng_len]; simp [evSs, evS, evE, evEs, evB, evC, evO, evP, evI, callD, argSl, argSls, bors, wb, frz, frzs, sees, R.see, lockS, unlockS, asgR, retR, setD, asgT, unlockO, backA, endF, nIf, nIfs, isAnd, truD, RD.r, binD, cmpR, isVl, cmpD, biD, ixD, Mn.Loc, keyD, keyD0, meD, recv, gtD, apD, isObj, runC, evF, tyN, ↓evS_fr, ↓evS_frt, ↓evE_lc, L2.atI, L2.ixN, big, asgS_if, nl_un, nl_val, nl_own, q_pp, q_ep, q_ee, q_lp, q_gp, q_le, q_ge, q_ll, q_gl, eq_ii, wd_f, wd_t, co_ss, cn_ss, co_mm, cn_mm, co_tt, cn_tt, bo_len, bo_any, bo_all, bo_max, bo_min, bo_rl, bb_l, bb_i])
  rw [rng_len] at h1
  simp [evSs, evS, evE, evEs, evB, evC, evO, evP, evI, callD, argSl, argSls, bors, wb, frz, frzs, sees, R.see, lockS, unlockS, asgR, retR, setD, asgT, unlockO, backA, endF, nIf, nIfs, isAnd, truD, RD.r, binD, cmpR, isVl, cmpD, biD, ixD, Mn.Loc, keyD, keyD0, meD, recv, gtD, apD, isObj, runC, evF, tyN, ↓evS_fr, ↓evS_frt, ↓evE_lc, L2.atI, L2.ixN, big, asgS_if, nl_un, nl_val, nl_own, q_pp, q_ep, q_ee, q_lp, q_gp, q_le, q_ge, q_ll, q_gl, eq_ii, wd_f, wd_t, co_ss, cn_ss, co_mm, cn_mm, co_tt, cn_tt, bo_len, bo_any, bo_all, bo_max, bo_min, bo_rl, bb_l, bb_i, h5, h1]
  have em : (tmD t :: tmD o :: D.tup [.str (Str.ofString "lesser"), .lst [tmD t, tmD t]] :: D.tup [.str (Str.ofString "greater"), .lst [tmD t, tmD t]] :: ts.map tmD) = (t :: o :: Tm.nd false [t, t] :: Tm.nd true [t, t] :: ts).map tmD := by
    simp [evSs, evS, evE, evEs, evB, evC, evO, evP, evI, callD, argSl, argSls, bors, wb, frz, frzs, sees, R.see, lockS, unlockS, asgR, retR, setD, asgT, unlockO, backA, endF, nIf, nIfs, isAnd, truD, RD.r, binD, cmpR, isVl, cmpD, biD, ixD, Mn.Loc, keyD, keyD0, meD, recv, gtD, apD, isObj, runC, evF, tyN, ↓evS_fr, ↓evS_frt, ↓evE_lc, L2.atI, L2.ixN, big, asgS_if, nl_un, nl_val, nl_own, q_pp, q_ep, q_ee, q_lp, q_gp, q_le, q_ge, q_ll, q_gl, eq_ii, wd_f, wd_t, co_ss, cn_ss, co_mm, cn_mm, co_tt, cn_tt, bo_len, bo_any, bo_all, bo_max, bo_min, bo_rl, bb_l, bb_i, tmD, tmDs]
  have dl : ∀ g a b, dep (.nd g [a, b]) = max (dep a) (dep b) + 1 := fun g a b => by simp [evSs, evS, evE, evEs, evB, evC, evO, evP, evI, callD, argSl, argSls, bors, wb, frz, frzs, sees, R.see, lockS, unlockS, asgR, retR, setD, asgT, unlockO, backA, endF, nIf, nIfs, isAnd, truD, RD.r, binD, cmpR, isVl, cmpD, biD, ixD, Mn.Loc, keyD, keyD0, meD, recv, gtD, apD, isObj, runC, evF, tyN, ↓evS_fr, ↓evS_frt, ↓evE_lc, L2.atI, L2.ixN, big, asgS_if, nl_un, nl_val, nl_own, q_pp, q_ep, q_ee, q_lp, q_gp, q_le, q_ge, q_ll, q_gl, eq_ii, wd_f, wd_t, co_ss, cn_ss, co_mm, cn_mm, co_tt, cn_tt, bo_len, bo_any, bo_all, bo_max, bo_min, bo_rl, bb_l, bb_i, dep, deps]
  have wm : ∀ m ∈ t :: o :: Tm.nd false [t, t] :: Tm.nd true [t, t] :: ts, Wf m ∧ dep m ≤ 4 := by
    intro m hm
    simp only [List.mem_cons] at hm
    rcases hm with rfl | rfl | rfl | rfl | hm
    · exact ⟨wt, by omega⟩
    · exact ⟨wo, by omega⟩
    · exact ⟨wf2 wt wt, by rw [dl]; omega⟩
    · exact ⟨wf2 wt wt, by rw [dl]; omega⟩
    · exact h2 m hm
  simp only [em]
  generalize t :: o :: Tm.nd false [t, t] :: Tm.nd true [t, t] :: ts = ms at wm
  generalize hb : lpS (rn (k+13)) tf gd (1, 12) _ = fb
  obtain ⟨c', ⟨i1, i2, i3⟩, ef⟩ := frS (α := Tm) (σ := Sl × Sl × Sl) (np := (1, 12)) (fb := fb) (x := 6) (fun c => [.own p4.w, .own (plD xs), .val (tmD t), .val (tmD o), .val (obD t), .lock (ms.map tmD), c.1, c.2.1, c.2.2, .un, .un, .un]) (fun c => nlk c.1 = true ∧ nlk c.2.1 = true ∧ nlk c.2.2 = true) tmD ms
    (fun m hm c ⟨c1, c2, c3⟩ => by
      obtain ⟨w1, w2⟩ := wm m hm
      have r1 := real w1 (k+13) (by omega)
      have r2 := r_eq wt (by omega) w1 (by omega) (n := k+13) (by omega) (by omega)
      have r3 := r_eq w1 (by omega) wt (by omega) (n := k+13) (by omega) (by omega)
      have r4 := eq_tm w1 wt (by omega) (by omega)
      have sy := beq_sym (wr t) (wr m)
      generalize (wr m == wr t) = bb at r3 r4 sy
      rw [sy] at r2
      have sk := (s3_ok bb bb (!bb)).2.2.2.2
      refine ⟨[.own p4.w, .own (plD xs), .val (tmD t), .val (tmD o), .val (obD t), .lock (ms.map tmD), .val (tmD m), c.2.1, c.2.2, .un, .un, .un], (.val (tmD m), .val (obD m), .own [.bl bb, .bl bb, .bl (!bb)]), by simp [evSs, evS, evE, evEs, evB, evC, evO, evP, evI, callD, argSl, argSls, bors, wb, frz, frzs, sees, R.see, lockS, unlockS, asgR, retR, setD, asgT, unlockO, backA, endF, nIf, nIfs, isAnd, truD, RD.r, binD, cmpR, isVl, cmpD, biD, ixD, Mn.Loc, keyD, keyD0, meD, recv, gtD, apD, isObj, runC, evF, tyN, ↓evS_fr, ↓evS_frt, ↓evE_lc, L2.atI, L2.ixN, big, asgS_if, nl_un, nl_val, nl_own, q_pp, q_ep, q_ee, q_lp, q_gp, q_le, q_ge, q_ll, q_gl, eq_ii, wd_f, wd_t, co_ss, cn_ss, co_mm, cn_mm, co_tt, cn_tt, bo_len, bo_any, bo_all, bo_max, bo_min, bo_rl, bb_l, bb_i, c1], ?_, rfl, rfl, rfl⟩
      subst hb
      simp [evSs, evS, evE, evEs, evB, evC, evO, evP, evI, callD, argSl, argSls, bors, wb, frz, frzs, sees, R.see, lockS, unlockS, asgR, retR, setD, asgT, unlockO, backA, endF, nIf, nIfs, isAnd, truD, RD.r, binD, cmpR, isVl, cmpD, biD, ixD, Mn.Loc, keyD, keyD0, meD, recv, gtD, apD, isObj, runC, evF, tyN, ↓evS_fr, ↓evS_frt, ↓evE_lc, L2.atI, L2.ixN, big, asgS_if, nl_un, nl_val, nl_own, q_pp, q_ep, q_ee, q_lp, q_gp, q_le, q_ge, q_ll, q_gl, eq_ii, wd_f, wd_t, co_ss, cn_ss, co_mm, cn_mm, co_tt, cn_tt, bo_len, bo_any, bo_all, bo_max, bo_min, bo_rl, bb_l, bb_i, lpS, r1, r2, r3, r4, c2, c3, s3, eq_ss sk sk]) (.un, .un, .un) ⟨rfl, rfl, rfl⟩
  have ef' : frL (1, 12) fb 6 (ms.map tmD) [.own p4.w, .own (plD xs), .val (tmD t), .val (tmD o), .val (obD t), .lock (ms.map tmD), .un, .un, .un, .un, .un, .un] = some (.nx [.own p4.w, .own (plD xs), .val (tmD t), .val (tmD o), .val (obD t), .lock (ms.map tmD), c'.1, c'.2.1, c'.2.2, .un, .un, .un]) := ef
  simp [evSs, evS, evE, evEs, evB, evC, evO, evP, evI, callD, argSl, argSls, bors, wb, frz, frzs, sees, R.see, lockS, unlockS, asgR, retR, setD, asgT, unlockO, backA, endF, nIf, nIfs, isAnd, truD, RD.r, binD, cmpR, isVl, cmpD, biD, ixD, Mn.Loc, keyD, keyD0, meD, recv, gtD, apD, isObj, runC, evF, tyN, ↓evS_fr, ↓evS_frt, ↓evE_lc, L2.atI, L2.ixN, big, asgS_if, nl_un, nl_val, nl_own, q_pp, q_ep, q_ee, q_lp, q_gp, q_le, q_ge, q_ll, q_gl, eq_ii, wd_f, wd_t, co_ss, cn_ss, co_mm, cn_mm, co_tt, cn_tt, bo_len, bo_any, bo_all, bo_max, bo_min, bo_rl, bb_l, bb_i, ef', s1, s2]
  have et : [D.str (txt t), D.str (wr t), D.non, D.int 0, D.str (Str.ofString ""), D.tup [], D.lst [obD t], D.tup [obD t], D.dct [], D.str (Str.ofString "r0"), D.str (Str.ofString "top")] = thg t := rfl
  simp only [et]
  generalize he2 : lpE (rn (k+13)) tf gd (.bop _ _ _) = fe2
  have lc := lcT (fe := fe2) (fc := fc) (x := 11) (δ := [.own p4.w, .own (plD xs), .val (tmD t), .val (tmD o), .val (obD t), .own (ms.map tmD), c'.1, c'.2.1, c'.2.2, .lock (thg t), .un, .un]) id (fun _ => .bl false) (thg t) .un rfl (fun d => by subst hc; simp [evSs, evS, evE, evEs, evB, evC, evO, evP, evI, callD, argSl, argSls, bors, wb, frz, frzs, sees, R.see, lockS, unlockS, asgR, retR, setD, asgT, unlockO, backA, endF, nIf, nIfs, isAnd, truD, RD.r, binD, cmpR, isVl, cmpD, biD, ixD, Mn.Loc, keyD, keyD0, meD, recv, gtD, apD, isObj, runC, evF, tyN, ↓evS_fr, ↓evS_frt, ↓evE_lc, L2.atI, L2.ixN, big, asgS_if, nl_un, nl_val, nl_own, q_pp, q_ep, q_ee, q_lp, q_gp, q_le, q_ge, q_ll, q_gl, eq_ii, wd_f, wd_t, co_ss, cn_ss, co_mm, cn_mm, co_tt, cn_tt, bo_len, bo_any, bo_all, bo_max, bo_min, bo_rl, bb_l, bb_i, lpC]) (fun d hd => by
    obtain ⟨g1, g2, g3⟩ := thg_ok t d hd
    have r1 := r_no t g1 g2 (k+12)
    have r2 := co_dt (rn (k+13)) g3 g1 t
    subst he2
    simp [evSs, evS, evE, evEs, evB, evC, evO, evP, evI, callD, argSl, argSls, bors, wb, frz, frzs, sees, R.see, lockS, unlockS, asgR, retR, setD, asgT, unlockO, backA, endF, nIf, nIfs, isAnd, truD, RD.r, binD, cmpR, isVl, cmpD, biD, ixD, Mn.Loc, keyD, keyD0, meD, recv, gtD, apD, isObj, runC, evF, tyN, ↓evS_fr, ↓evS_frt, ↓evE_lc, L2.atI, L2.ixN, big, asgS_if, nl_un, nl_val, nl_own, q_pp, q_ep, q_ee, q_lp, q_gp, q_le, q_ge, q_ll, q_gl, eq_ii, wd_f, wd_t, co_ss, cn_ss, co_mm, cn_mm, co_tt, cn_tt, bo_len, bo_any, bo_all, bo_max, bo_min, bo_rl, bb_l, bb_i, lpE, r1, r2]) (by simp [evSs, evS, evE, evEs, evB, evC, evO, evP, evI, callD, argSl, argSls, bors, wb, frz, frzs, sees, R.see, lockS, unlockS, asgR, retR, setD, asgT, unlockO, backA, endF, nIf, nIfs, isAnd, truD, RD.r, binD, cmpR, isVl, cmpD, biD, ixD, Mn.Loc, keyD, keyD0, meD, recv, gtD, apD, isObj, runC, evF, tyN, ↓evS_fr, ↓evS_frt, ↓evE_lc, L2.atI, L2.ixN, big, asgS_if, nl_un, nl_val, nl_own, q_pp, q_ep, q_ee, q_lp, q_gp, q_le, q_ge, q_ll, q_gl, eq_ii, wd_f, wd_t, co_ss, cn_ss, co_mm, cn_mm, co_tt, cn_tt, bo_len, bo_any, bo_all, bo_max, bo_min, bo_rl, bb_l, bb_i, thg])
  rw [List.map_id] at lc
  have af := asBls_f (thg t)
  have an := any_f (thg t)
  refine ⟨p4, ?_⟩
  rw [lc]
  simp [evSs, evS, evE, evEs, evB, evC, evO, evP, evI, callD, argSl, argSls, bors, wb, frz, frzs, sees, R.see, lockS, unlockS, asgR, retR, setD, asgT, unlockO, backA, endF, nIf, nIfs, isAnd, truD, RD.r, binD, cmpR, isVl, cmpD, biD, ixD, Mn.Loc, keyD, keyD0, meD, recv, gtD, apD, isObj, runC, evF, tyN, ↓evS_fr, ↓evS_frt, ↓evE_lc, L2.atI, L2.ixN, big, asgS_if, nl_un, nl_val, nl_own, q_pp, q_ep, q_ee, q_lp, q_gp, q_le, q_ge, q_ll, q_gl, eq_ii, wd_f, wd_t, co_ss, cn_ss, co_mm, cn_mm, co_tt, cn_tt, bo_len, bo_any, bo_all, bo_max, bo_min, bo_rl, bb_l, bb_i, -List.map_const', af, an, sg, s1, s2, s3', s4, q1]
theorem asBls_t {α : Type} : ∀ ds : List α, asBls (ds.map fun _ => .bl true) = some (ds.map fun _ => true)
  | [] => rfl
  | d :: ds => by simp [evSs, evS, evE, evEs, evB, evC, evO, evP, evI, callD, argSl, argSls, bors, wb, frz, frzs, sees, R.see, lockS, unlockS, asgR, retR, setD, asgT, unlockO, backA, endF, nIf, nIfs, isAnd, truD, RD.r, binD, cmpR, isVl, cmpD, biD, ixD, Mn.Loc, keyD, keyD0, meD, recv, gtD, apD, isObj, runC, evF, tyN, ↓evS_fr, ↓evS_frt, ↓evE_lc, L2.atI, L2.ixN, big, asgS_if, nl_un, nl_val, nl_own, q_pp, q_ep, q_ee, q_lp, q_gp, q_le, q_ge, q_ll, q_gl, eq_ii, wd_f, wd_t, co_ss, cn_ss, co_mm, cn_mm, co_tt, cn_tt, bo_len, bo_any, bo_all, bo_max, bo_min, bo_rl, bb_l, bb_i, asBls, asBls_t ds]
theorem law (k : Nat) (ns : List Int) (l : ns.length ≤ 63) : rn (k+15) 20 [.val (.rol (ns.map D.int))] = some (.ret (.val (.bl true)) [.val (.rol (ns.map D.int))]) := by
  simp [evSs, evS, evE, evEs, evB, evC, evO, evP, evI, callD, argSl, argSls, bors, wb, frz, frzs, sees, R.see, lockS, unlockS, asgR, retR, setD, asgT, unlockO, backA, endF, nIf, nIfs, isAnd, truD, RD.r, binD, cmpR, isVl, cmpD, biD, ixD, Mn.Loc, keyD, keyD0, meD, recv, gtD, apD, isObj, runC, evF, tyN, ↓evS_fr, ↓evS_frt, ↓evE_lc, L2.atI, L2.ixN, big, asgS_if, nl_un, nl_val, nl_own, q_pp, q_ep, q_ee, q_lp, q_gp, q_le, q_ge, q_ll, q_gl, eq_ii, wd_f, wd_t, co_ss, cn_ss, co_mm, cn_mm, co_tt, cn_tt, bo_len, bo_any, bo_all, bo_max, bo_min, bo_rl, bb_l, bb_i, fn20, b39]
  generalize hN : (if 1 < (if (5 : Int) < ns.length then (5 : Int) else ns.length) then (if (5 : Int) < ns.length then (5 : Int) else ns.length) else 1) = N
  have b0 : 0 ≤ N := by subst hN; split <;> (try split) <;> omega
  have b1 : N ≤ 5 := by subst hN; split <;> (try split) <;> omega
  have b2 : (-1000000 : Int) ≤ N := by omega
  have b3 : N ≤ (1000000 : Int) := by omega
  simp [evSs, evS, evE, evEs, evB, evC, evO, evP, evI, callD, argSl, argSls, bors, wb, frz, frzs, sees, R.see, lockS, unlockS, asgR, retR, setD, asgT, unlockO, backA, endF, nIf, nIfs, isAnd, truD, RD.r, binD, cmpR, isVl, cmpD, biD, ixD, Mn.Loc, keyD, keyD0, meD, recv, gtD, apD, isObj, runC, evF, tyN, ↓evS_fr, ↓evS_frt, ↓evE_lc, L2.atI, L2.ixN, big, asgS_if, nl_un, nl_val, nl_own, q_pp, q_ep, q_ee, q_lp, q_gp, q_le, q_ge, q_ll, q_gl, eq_ii, wd_f, wd_t, co_ss, cn_ss, co_mm, cn_mm, co_tt, cn_tt, bo_len, bo_any, bo_all, bo_max, bo_min, bo_rl, bb_l, bb_i, b2, b3]
  generalize he : lpE (rn (k+14)) tf gd _ = fe
  generalize hc : lpC (rn (k+14)) tf gd _ = fc
  have lc := lcT (fe := fe) (fc := fc) (x := 1) (δ := [.val (.rol (ns.map D.int)), .un]) (fun i : Nat => D.int (0 + (i : Nat))) (fun _ => .bl true) (List.range N.toNat) .un rfl (fun d => by subst hc; simp [evSs, evS, evE, evEs, evB, evC, evO, evP, evI, callD, argSl, argSls, bors, wb, frz, frzs, sees, R.see, lockS, unlockS, asgR, retR, setD, asgT, unlockO, backA, endF, nIf, nIfs, isAnd, truD, RD.r, binD, cmpR, isVl, cmpD, biD, ixD, Mn.Loc, keyD, keyD0, meD, recv, gtD, apD, isObj, runC, evF, tyN, ↓evS_fr, ↓evS_frt, ↓evE_lc, L2.atI, L2.ixN, big, asgS_if, nl_un, nl_val, nl_own, q_pp, q_ep, q_ee, q_lp, q_gp, q_le, q_ge, q_ll, q_gl, eq_ii, wd_f, wd_t, co_ss, cn_ss, co_mm, cn_mm, co_tt, cn_tt, bo_len, bo_any, bo_all, bo_max, bo_min, bo_rl, bb_l, bb_i, lpC]) (fun i hi => by
    have hi := List.mem_range.mp hi
    obtain ⟨p, e1⟩ := pot (k+13) (ns := ns) (k := 0 + (i : Nat)) (by omega) (by omega)
    obtain ⟨p2, e2⟩ := right k p
    simp [evSs, evS, evE, evEs, evB, evC, evO, evP, evI, callD, argSl, argSls, bors, wb, frz, frzs, sees, R.see, lockS, unlockS, asgR, retR, setD, asgT, unlockO, backA, endF, nIf, nIfs, isAnd, truD, RD.r, binD, cmpR, isVl, cmpD, biD, ixD, Mn.Loc, keyD, keyD0, meD, recv, gtD, apD, isObj, runC, evF, tyN, ↓evS_fr, ↓evS_frt, ↓evE_lc, L2.atI, L2.ixN, big, asgS_if, nl_un, nl_val, nl_own, q_pp, q_ep, q_ee, q_lp, q_gp, q_le, q_ge, q_ll, q_gl, eq_ii, wd_f, wd_t, co_ss, cn_ss, co_mm, cn_mm, co_tt, cn_tt, bo_len, bo_any, bo_all, bo_max, bo_min, bo_rl, bb_l, bb_i] at e1
    subst he
    simp [evSs, evS, evE, evEs, evB, evC, evO, evP, evI, callD, argSl, argSls, bors, wb, frz, frzs, sees, R.see, lockS, unlockS, asgR, retR, setD, asgT, unlockO, backA, endF, nIf, nIfs, isAnd, truD, RD.r, binD, cmpR, isVl, cmpD, biD, ixD, Mn.Loc, keyD, keyD0, meD, recv, gtD, apD, isObj, runC, evF, tyN, ↓evS_fr, ↓evS_frt, ↓evE_lc, L2.atI, L2.ixN, big, asgS_if, nl_un, nl_val, nl_own, q_pp, q_ep, q_ee, q_lp, q_gp, q_le, q_ge, q_ll, q_gl, eq_ii, wd_f, wd_t, co_ss, cn_ss, co_mm, cn_mm, co_tt, cn_tt, bo_len, bo_any, bo_all, bo_max, bo_min, bo_rl, bb_l, bb_i, lpE, e1, e2]) (by simp [evSs, evS, evE, evEs, evB, evC, evO, evP, evI, callD, argSl, argSls, bors, wb, frz, frzs, sees, R.see, lockS, unlockS, asgR, retR, setD, asgT, unlockO, backA, endF, nIf, nIfs, isAnd, truD, RD.r, binD, cmpR, isVl, cmpD, biD, ixD, Mn.Loc, keyD, keyD0, meD, recv, gtD, apD, isObj, runC, evF, tyN, ↓evS_fr, ↓evS_frt, ↓evE_lc, L2.atI, L2.ixN, big, asgS_if, nl_un, nl_val, nl_own, q_pp, q_ep, q_ee, q_lp, q_gp, q_le, q_ge, q_ll, q_gl, eq_ii, wd_f, wd_t, co_ss, cn_ss, co_mm, cn_mm, co_tt, cn_tt, bo_len, bo_any, bo_all, bo_max, bo_min, bo_rl, bb_l, bb_i]; omega)
  have er : rngD 0 N.toNat = (List.range N.toNat).map (fun i : Nat => D.int (0 + (i : Nat))) := rfl
  rw [er, lc]
  have at_ := asBls_t (List.range N.toNat)
  simp [evSs, evS, evE, evEs, evB, evC, evO, evP, evI, callD, argSl, argSls, bors, wb, frz, frzs, sees, R.see, lockS, unlockS, asgR, retR, setD, asgT, unlockO, backA, endF, nIf, nIfs, isAnd, truD, RD.r, binD, cmpR, isVl, cmpD, biD, ixD, Mn.Loc, keyD, keyD0, meD, recv, gtD, apD, isObj, runC, evF, tyN, ↓evS_fr, ↓evS_frt, ↓evE_lc, L2.atI, L2.ixN, big, asgS_if, nl_un, nl_val, nl_own, q_pp, q_ep, q_ee, q_lp, q_gp, q_le, q_ge, q_ll, q_gl, eq_ii, wd_f, wd_t, co_ss, cn_ss, co_mm, cn_mm, co_tt, cn_tt, bo_len, bo_any, bo_all, bo_max, bo_min, bo_rl, bb_l, bb_i, -List.map_const', at_]
end K13

-- K13d
set_option Elab.async false
set_option linter.all false
set_option maxRecDepth 100000
set_option maxHeartbeats 4000000
set_option autoImplicit false
namespace K13E
open K13
open PySem PySem.Spec L2 Mn
def top (i : Nat) : Stmt := PySem.Challenge.pw_heldranks_k13_texts_and_equal_terms.main.body.getD i (.Pass ⟨0, 0, 0, 0⟩)
theorem e10 : upSs gam n10 b10 = defBody (top 10) := rfl
def d10 : DefI gam := { at_ := ((Str.ofString "is_end"), none), x := (Str.ofString "is_end"), q := (Str.ofString "is_end"), st := top 10, F := ⟨1, 1, false, b10⟩, N := n10, ps := [(Str.ofString "value")], lm := false, ks := [], S := ⟨rfl, rfl, rfl, by decide +kernel, rfl, by decide +kernel, by decide +kernel⟩, wf := by decide +kernel, eb := e10, ns := rfl, np := rfl, bo := fun _ _ _ _ _ _ => ⟨(fun _ s us hl => match us, hl with | [_], _ => .of_eq rfl), (fun z => by cases z), (fun _ h => by cases h)⟩ }
theorem e14 : upSs gam n14 b14 = defBody (top 14) := rfl
def d14 : DefI gam := { at_ := ((Str.ofString "is_place"), none), x := (Str.ofString "is_place"), q := (Str.ofString "is_place"), st := top 14, F := ⟨1, 1, false, b14⟩, N := n14, ps := [(Str.ofString "value")], lm := false, ks := [], S := ⟨rfl, rfl, rfl, by decide +kernel, rfl, by decide +kernel, by decide +kernel⟩, wf := by decide +kernel, eb := e14, ns := rfl, np := rfl, bo := fun _ _ _ _ _ _ => ⟨(fun _ s us hl => match us, hl with | [_], _ => .of_eq rfl), (fun z => by cases z), (fun _ h => by cases h)⟩ }
theorem e15 : upSs gam n15 b15 = defBody (top 15) := rfl
def d15 : DefI gam := { at_ := ((Str.ofString "want_term"), none), x := (Str.ofString "want_term"), q := (Str.ofString "want_term"), st := top 15, F := ⟨1, 1, false, b15⟩, N := n15, ps := [(Str.ofString "value")], lm := false, ks := [], S := ⟨rfl, rfl, rfl, by decide +kernel, rfl, by decide +kernel, by decide +kernel⟩, wf := by decide +kernel, eb := e15, ns := rfl, np := rfl, bo := fun _ _ _ _ _ _ => ⟨(fun _ s us hl => match us, hl with | [_], _ => .of_eq rfl), (fun z => by cases z), (fun _ h => by cases h)⟩ }
theorem e16 : upSs gam n16 b16 = defBody (top 16) := rfl
def d16 : DefI gam := { at_ := ((Str.ofString "want_terms"), none), x := (Str.ofString "want_terms"), q := (Str.ofString "want_terms"), st := top 16, F := ⟨1, 2, false, b16⟩, N := n16, ps := [(Str.ofString "values")], lm := false, ks := [], S := ⟨rfl, rfl, rfl, by decide +kernel, rfl, by decide +kernel, by decide +kernel⟩, wf := by decide +kernel, eb := e16, ns := rfl, np := rfl, bo := fun _ _ _ _ _ _ => ⟨(fun _ s us hl => match us, hl with | [_], _ => .of_eq rfl), (fun z => by cases z), (fun _ h => by cases h)⟩ }
theorem e17 : upSs gam n17 b17 = defBody (top 17) := rfl
def d17 : DefI gam := { at_ := ((Str.ofString "depth_above"), none), x := (Str.ofString "depth_above"), q := (Str.ofString "depth_above"), st := top 17, F := ⟨1, 2, false, b17⟩, N := n17, ps := [(Str.ofString "terms")], lm := false, ks := [], S := ⟨rfl, rfl, rfl, by decide +kernel, rfl, by decide +kernel, by decide +kernel⟩, wf := by decide +kernel, eb := e17, ns := rfl, np := rfl, bo := fun _ _ _ _ _ _ => ⟨(fun _ s us hl => match us, hl with | [_], _ => .of_eq rfl), (fun z => by cases z), (fun _ h => by cases h)⟩ }
theorem e18 : upSs gam n18 b18 = defBody (top 18) := rfl
def d18 : DefI gam := { at_ := ((Str.ofString "term_text"), none), x := (Str.ofString "term_text"), q := (Str.ofString "term_text"), st := top 18, F := ⟨1, 3, false, b18⟩, N := n18, ps := [(Str.ofString "term")], lm := false, ks := [], S := ⟨rfl, rfl, rfl, by decide +kernel, rfl, by decide +kernel, by decide +kernel⟩, wf := by decide +kernel, eb := e18, ns := rfl, np := rfl, bo := fun _ _ _ _ _ _ => ⟨(fun _ s us hl => match us, hl with | [_], _ => .of_eq rfl), (fun z => by cases z), (fun _ h => by cases h)⟩ }
theorem e19 : upSs gam n19 b19 = defBody (top 19) := rfl
def d19 : DefI gam := { at_ := ((Str.ofString "term_repr"), none), x := (Str.ofString "term_repr"), q := (Str.ofString "term_repr"), st := top 19, F := ⟨1, 3, false, b19⟩, N := n19, ps := [(Str.ofString "term")], lm := false, ks := [], S := ⟨rfl, rfl, rfl, by decide +kernel, rfl, by decide +kernel, by decide +kernel⟩, wf := by decide +kernel, eb := e19, ns := rfl, np := rfl, bo := fun _ _ _ _ _ _ => ⟨(fun _ s us hl => match us, hl with | [_], _ => .of_eq rfl), (fun z => by cases z), (fun _ h => by cases h)⟩ }
theorem e26 : upSs gam n26 b26 = defBody (top 26) := rfl
def d26 : DefI gam := { at_ := ((Str.ofString "_law_pot"), none), x := (Str.ofString "_law_pot"), q := (Str.ofString "_law_pot"), st := top 26, F := ⟨2, 3, false, b26⟩, N := n26, ps := [(Str.ofString "_law_script"), (Str.ofString "_law_k")], lm := false, ks := [], S := ⟨rfl, rfl, rfl, by decide +kernel, rfl, by decide +kernel, by decide +kernel⟩, wf := by decide +kernel, eb := e26, ns := rfl, np := rfl, bo := fun _ _ _ _ _ _ => ⟨(fun _ s us hl => match us, hl with | [_, _], _ => .of_eq rfl), (fun z => by cases z), (fun _ h => by cases h)⟩ }
theorem e27 : upSs gam n27 b27 = defBody (top 27) := rfl
def d27 : DefI gam := { at_ := ((Str.ofString "_law_draw"), none), x := (Str.ofString "_law_draw"), q := (Str.ofString "_law_draw"), st := top 27, F := ⟨2, 3, false, b27⟩, N := n27, ps := [(Str.ofString "_law_pot_here"), (Str.ofString "_law_many")], lm := false, ks := [], S := ⟨rfl, rfl, rfl, by decide +kernel, rfl, by decide +kernel, by decide +kernel⟩, wf := by decide +kernel, eb := e27, ns := rfl, np := rfl, bo := fun _ _ _ _ _ _ => ⟨(fun _ s us hl => match us, hl with | [_, _], _ => .of_eq rfl), (fun z => by cases z), (fun _ h => by cases h)⟩ }
theorem e28 : upSs gam n28 b28 = defBody (top 28) := rfl
def d28 : DefI gam := { at_ := ((Str.ofString "_law_pick"), none), x := (Str.ofString "_law_pick"), q := (Str.ofString "_law_pick"), st := top 28, F := ⟨2, 2, false, b28⟩, N := n28, ps := [(Str.ofString "_law_pot_here"), (Str.ofString "_law_some")], lm := false, ks := [], S := ⟨rfl, rfl, rfl, by decide +kernel, rfl, by decide +kernel, by decide +kernel⟩, wf := by decide +kernel, eb := e28, ns := rfl, np := rfl, bo := fun _ _ _ _ _ _ => ⟨(fun _ s us hl => match us, hl with | [_, _], _ => .of_eq rfl), (fun z => by cases z), (fun _ h => by cases h)⟩ }
theorem e29 : upSs gam n29 b29 = defBody (top 29) := rfl
def d29 : DefI gam := { at_ := ((Str.ofString "_law_places"), none), x := (Str.ofString "_law_places"), q := (Str.ofString "_law_places"), st := top 29, F := ⟨1, 3, false, b29⟩, N := n29, ps := [(Str.ofString "_law_pot_here")], lm := false, ks := [], S := ⟨rfl, rfl, rfl, by decide +kernel, rfl, by decide +kernel, by decide +kernel⟩, wf := by decide +kernel, eb := e29, ns := rfl, np := rfl, bo := fun _ _ _ _ _ _ => ⟨(fun _ s us hl => match us, hl with | [_], _ => .of_eq rfl), (fun z => by cases z), (fun _ h => by cases h)⟩ }
theorem e30 : upSs gam n30 b30 = defBody (top 30) := rfl
def d30 : DefI gam := { at_ := ((Str.ofString "_law_term"), none), x := (Str.ofString "_law_term"), q := (Str.ofString "_law_term"), st := top 30, F := ⟨3, 6, false, b30⟩, N := n30, ps := [(Str.ofString "_law_pot_here"), (Str.ofString "_law_places_here"), (Str.ofString "_law_deep")], lm := false, ks := [], S := ⟨rfl, rfl, rfl, by decide +kernel, rfl, by decide +kernel, by decide +kernel⟩, wf := by decide +kernel, eb := e30, ns := rfl, np := rfl, bo := fun _ _ _ _ _ _ => ⟨(fun _ s us hl => match us, hl with | [_, _, _], _ => .of_eq rfl), (fun z => by cases z), (fun _ h => by cases h)⟩ }
theorem e31 : upSs gam n31 b31 = defBody (top 31) := rfl
def d31 : DefI gam := { at_ := ((Str.ofString "_law_joined"), none), x := (Str.ofString "_law_joined"), q := (Str.ofString "_law_joined"), st := top 31, F := ⟨2, 2, false, b31⟩, N := n31, ps := [(Str.ofString "_law_word"), (Str.ofString "_law_p")], lm := false, ks := [], S := ⟨rfl, rfl, rfl, by decide +kernel, rfl, by decide +kernel, by decide +kernel⟩, wf := by decide +kernel, eb := e31, ns := rfl, np := rfl, bo := fun _ _ _ _ _ _ => ⟨(fun _ s us hl => match us, hl with | [_, _], _ => .of_eq rfl), (fun z => by cases z), (fun _ h => by cases h)⟩ }
theorem e32 : upSs gam n32 b32 = defBody (top 32) := rfl
def d32 : DefI gam := { at_ := ((Str.ofString "_law_real"), none), x := (Str.ofString "_law_real"), q := (Str.ofString "_law_real"), st := top 32, F := ⟨1, 2, false, b32⟩, N := n32, ps := [(Str.ofString "_law_term_here")], lm := false, ks := [], S := ⟨rfl, rfl, rfl, by decide +kernel, rfl, by decide +kernel, by decide +kernel⟩, wf := by decide +kernel, eb := e32, ns := rfl, np := rfl, bo := fun _ _ _ _ _ _ => ⟨(fun _ s us hl => match us, hl with | [_], _ => .of_eq rfl), (fun z => by cases z), (fun _ h => by cases h)⟩ }
theorem e33 : upSs gam n33 b33 = defBody (top 33) := rfl
def d33 : DefI gam := { at_ := ((Str.ofString "_law_inner"), none), x := (Str.ofString "_law_inner"), q := (Str.ofString "_law_inner"), st := top 33, F := ⟨1, 1, false, b33⟩, N := n33, ps := [(Str.ofString "_law_term_here")], lm := false, ks := [], S := ⟨rfl, rfl, rfl, by decide +kernel, rfl, by decide +kernel, by decide +kernel⟩, wf := by decide +kernel, eb := e33, ns := rfl, np := rfl, bo := fun _ _ _ _ _ _ => ⟨(fun _ s us hl => match us, hl with | [_], _ => .of_eq rfl), (fun z => by cases z), (fun _ h => by cases h)⟩ }
theorem e34 : upSs gam n34 b34 = defBody (top 34) := rfl
def d34 : DefI gam := { at_ := ((Str.ofString "_law_text"), none), x := (Str.ofString "_law_text"), q := (Str.ofString "_law_text"), st := top 34, F := ⟨1, 2, false, b34⟩, N := n34, ps := [(Str.ofString "_law_term_here")], lm := false, ks := [], S := ⟨rfl, rfl, rfl, by decide +kernel, rfl, by decide +kernel, by decide +kernel⟩, wf := by decide +kernel, eb := e34, ns := rfl, np := rfl, bo := fun _ _ _ _ _ _ => ⟨(fun _ s us hl => match us, hl with | [_], _ => .of_eq rfl), (fun z => by cases z), (fun _ h => by cases h)⟩ }
theorem e35 : upSs gam n35 b35 = defBody (top 35) := rfl
def d35 : DefI gam := { at_ := ((Str.ofString "_law_written"), none), x := (Str.ofString "_law_written"), q := (Str.ofString "_law_written"), st := top 35, F := ⟨1, 3, false, b35⟩, N := n35, ps := [(Str.ofString "_law_term_here")], lm := false, ks := [], S := ⟨rfl, rfl, rfl, by decide +kernel, rfl, by decide +kernel, by decide +kernel⟩, wf := by decide +kernel, eb := e35, ns := rfl, np := rfl, bo := fun _ _ _ _ _ _ => ⟨(fun _ s us hl => match us, hl with | [_], _ => .of_eq rfl), (fun z => by cases z), (fun _ h => by cases h)⟩ }
theorem e36 : upSs gam n36 b36 = defBody (top 36) := rfl
def d36 : DefI gam := { at_ := ((Str.ofString "_law_bent"), none), x := (Str.ofString "_law_bent"), q := (Str.ofString "_law_bent"), st := top 36, F := ⟨3, 6, false, b36⟩, N := n36, ps := [(Str.ofString "_law_pot_here"), (Str.ofString "_law_term_here"), (Str.ofString "_law_places_here")], lm := false, ks := [], S := ⟨rfl, rfl, rfl, by decide +kernel, rfl, by decide +kernel, by decide +kernel⟩, wf := by decide +kernel, eb := e36, ns := rfl, np := rfl, bo := fun _ _ _ _ _ _ => ⟨(fun _ s us hl => match us, hl with | [_, _, _], _ => .of_eq rfl), (fun z => by cases z), (fun _ h => by cases h)⟩ }
theorem e37 : upSs gam n37 b37 = defBody (top 37) := rfl
def d37 : DefI gam := { at_ := ((Str.ofString "_law_signs_right"), none), x := (Str.ofString "_law_signs_right"), q := (Str.ofString "_law_signs_right"), st := top 37, F := ⟨3, 7, false, b37⟩, N := n37, ps := [(Str.ofString "_law_made"), (Str.ofString "_law_term_here"), (Str.ofString "_law_other")], lm := false, ks := [], S := ⟨rfl, rfl, rfl, by decide +kernel, rfl, by decide +kernel, by decide +kernel⟩, wf := by decide +kernel, eb := e37, ns := rfl, np := rfl, bo := fun _ _ _ _ _ _ => ⟨(fun _ s us hl => match us, hl with | [_, _, _], _ => .of_eq rfl), (fun z => by cases z), (fun _ h => by cases h)⟩ }
theorem e38 : upSs gam n38 b38 = defBody (top 38) := rfl
def d38 : DefI gam := { at_ := ((Str.ofString "_law_right"), none), x := (Str.ofString "_law_right"), q := (Str.ofString "_law_right"), st := top 38, F := ⟨1, 12, false, b38⟩, N := n38, ps := [(Str.ofString "_law_pot_here")], lm := false, ks := [], S := ⟨rfl, rfl, rfl, by decide +kernel, rfl, by decide +kernel, by decide +kernel⟩, wf := by decide +kernel, eb := e38, ns := rfl, np := rfl, bo := fun _ _ _ _ _ _ => ⟨(fun _ s us hl => match us, hl with | [_], _ => .of_eq rfl), (fun z => by cases z), (fun _ h => by cases h)⟩ }
theorem e39 : upSs gam n39 b39 = defBody (top 39) := rfl
def d39 : DefI gam := { at_ := ((Str.ofString "law"), none), x := (Str.ofString "law"), q := (Str.ofString "law"), st := top 39, F := ⟨1, 2, false, b39⟩, N := n39, ps := [(Str.ofString "_law_script")], lm := false, ks := [], S := ⟨rfl, rfl, rfl, by decide +kernel, rfl, by decide +kernel, by decide +kernel⟩, wf := by decide +kernel, eb := e39, ns := rfl, np := rfl, bo := fun _ _ _ _ _ _ => ⟨(fun _ s us hl => match us, hl with | [_], _ => .of_eq rfl), (fun z => by cases z), (fun _ h => by cases h)⟩ }
def p21 : ClP := ⟨(⟨93, 8, 93, 13⟩, ⟨93, 8, 93, 15⟩, ⟨93, 8, 93, 24⟩, ⟨93, 8, 93, 27⟩, ⟨93, 8, 93, 27⟩), [(⟨94, 8, 94, 12⟩, ⟨94, 8, 94, 21⟩, ⟨94, 8, 94, 28⟩)]⟩
theorem e21i : upCl gam n21i c21 p21 = defBody (inClass (top 21) 0) := rfl
def d21i : ClI gam := { c := c21, st := inClass (top 21) 0, q := (Str.ofString "Place.__init__"), N := n21i, ps := [(Str.ofString "self"), (Str.ofString "name")], P := p21, eb := e21i, S := NdefX.nscope_by (by decide +kernel), ns := rfl, np := rfl, p0 := by decide, wb := by decide +kernel, ws := by decide +kernel, wf := by decide +kernel, vs := by decide +kernel, su := (fun _ => by decide +kernel), bo := (fun _ _ _ _ _ _ _ _ s us hl => match us, hl with | [_, _], _ => .of_eq rfl), bs := (fun z => by cases z), hd := ⟨_, rfl, rfl⟩, nd := by decide +kernel, sz := by decide +kernel }
def p22 : ClP := ⟨(⟨104, 8, 104, 13⟩, ⟨104, 8, 104, 15⟩, ⟨104, 8, 104, 24⟩, ⟨104, 8, 104, 27⟩, ⟨104, 8, 104, 27⟩), [(⟨105, 8, 105, 12⟩, ⟨105, 8, 105, 20⟩, ⟨105, 8, 105, 26⟩)]⟩
theorem e22i : upCl gam n22i c22 p22 = defBody (inClass (top 22) 0) := rfl
def d22i : ClI gam := { c := c22, st := inClass (top 22) 0, q := (Str.ofString "End.__init__"), N := n22i, ps := [(Str.ofString "self"), (Str.ofString "end")], P := p22, eb := e22i, S := NdefX.nscope_by (by decide +kernel), ns := rfl, np := rfl, p0 := by decide, wb := by decide +kernel, ws := by decide +kernel, wf := by decide +kernel, vs := by decide +kernel, su := (fun _ => by decide +kernel), bo := (fun _ _ _ _ _ _ _ _ s us hl => match us, hl with | [_, _], _ => .of_eq rfl), bs := (fun z => by cases z), hd := ⟨_, rfl, rfl⟩, nd := by decide +kernel, sz := by decide +kernel }
def p23 : ClP := ⟨(⟨113, 8, 113, 13⟩, ⟨113, 8, 113, 15⟩, ⟨113, 8, 113, 24⟩, ⟨113, 8, 113, 44⟩, ⟨113, 8, 113, 44⟩), [(⟨114, 8, 114, 12⟩, ⟨114, 8, 114, 22⟩, ⟨114, 8, 114, 30⟩)]⟩
theorem e23i : upCl gam n23i c23 p23 = defBody (inClass (top 23) 0) := rfl
def d23i : ClI gam := { c := c23, st := inClass (top 23) 0, q := (Str.ofString "Lesser.__init__"), N := n23i, ps := [(Str.ofString "self"), (Str.ofString "terms")], P := p23, eb := e23i, S := NdefX.nscope_by (by decide +kernel), ns := rfl, np := rfl, p0 := by decide, wb := by decide +kernel, ws := by decide +kernel, wf := by decide +kernel, vs := by decide +kernel, su := (fun _ => by decide +kernel), bo := (fun z => by cases z), bs := (fun _ => ⟨(Str.ofString "self"), (Str.ofString "terms"), rfl, fun _ _ _ _ _ _ _ u0 rest => by cases rest <;> rfl⟩), hd := ⟨_, rfl, rfl⟩, nd := by decide +kernel, sz := by decide +kernel }
def p24 : ClP := ⟨(⟨122, 8, 122, 13⟩, ⟨122, 8, 122, 15⟩, ⟨122, 8, 122, 24⟩, ⟨122, 8, 122, 44⟩, ⟨122, 8, 122, 44⟩), [(⟨123, 8, 123, 12⟩, ⟨123, 8, 123, 22⟩, ⟨123, 8, 123, 30⟩)]⟩
theorem e24i : upCl gam n24i c24 p24 = defBody (inClass (top 24) 0) := rfl
def d24i : ClI gam := { c := c24, st := inClass (top 24) 0, q := (Str.ofString "Greater.__init__"), N := n24i, ps := [(Str.ofString "self"), (Str.ofString "terms")], P := p24, eb := e24i, S := NdefX.nscope_by (by decide +kernel), ns := rfl, np := rfl, p0 := by decide, wb := by decide +kernel, ws := by decide +kernel, wf := by decide +kernel, vs := by decide +kernel, su := (fun _ => by decide +kernel), bo := (fun z => by cases z), bs := (fun _ => ⟨(Str.ofString "self"), (Str.ofString "terms"), rfl, fun _ _ _ _ _ _ _ u0 rest => by cases rest <;> rfl⟩), hd := ⟨_, rfl, rfl⟩, nd := by decide +kernel, sz := by decide +kernel }
theorem e20m6 : upSs gam n20m6 b20m6 = defBody (inClass (top 20) 6) := rfl
def d20m6 : DefI gam := { at_ := ((Str.ofString "Term"), some (Str.ofString "__and__")), x := (Str.ofString "__and__"), q := (Str.ofString "Term.__and__"), st := inClass (top 20) 6, F := ⟨2, 2, false, b20m6⟩, N := n20m6, ps := [(Str.ofString "self"), (Str.ofString "other")], lm := false, ks := [], S := ⟨rfl, rfl, rfl, by decide +kernel, rfl, by decide +kernel, by decide +kernel⟩, wf := by decide +kernel, eb := e20m6, ns := rfl, np := rfl, bo := fun _ _ _ _ _ _ => ⟨(fun _ s us hl => match us, hl with | [_, _], _ => .of_eq rfl), (fun z => by cases z), (fun _ h => by cases h)⟩ }
theorem e20m7 : upSs gam n20m7 b20m7 = defBody (inClass (top 20) 7) := rfl
def d20m7 : DefI gam := { at_ := ((Str.ofString "Term"), some (Str.ofString "__or__")), x := (Str.ofString "__or__"), q := (Str.ofString "Term.__or__"), st := inClass (top 20) 7, F := ⟨2, 2, false, b20m7⟩, N := n20m7, ps := [(Str.ofString "self"), (Str.ofString "other")], lm := false, ks := [], S := ⟨rfl, rfl, rfl, by decide +kernel, rfl, by decide +kernel, by decide +kernel⟩, wf := by decide +kernel, eb := e20m7, ns := rfl, np := rfl, bo := fun _ _ _ _ _ _ => ⟨(fun _ s us hl => match us, hl with | [_, _], _ => .of_eq rfl), (fun z => by cases z), (fun _ h => by cases h)⟩ }
theorem e20m8 : upSs gam n20m8 b20m8 = defBody (inClass (top 20) 8) := rfl
def d20m8 : DefI gam := { at_ := ((Str.ofString "Term"), some (Str.ofString "__str__")), x := (Str.ofString "__str__"), q := (Str.ofString "Term.__str__"), st := inClass (top 20) 8, F := ⟨1, 1, false, b20m8⟩, N := n20m8, ps := [(Str.ofString "self")], lm := false, ks := [], S := ⟨rfl, rfl, rfl, by decide +kernel, rfl, by decide +kernel, by decide +kernel⟩, wf := by decide +kernel, eb := e20m8, ns := rfl, np := rfl, bo := fun _ _ _ _ _ _ => ⟨(fun _ s us hl => match us, hl with | [_], _ => .of_eq rfl), (fun z => by cases z), (fun _ h => by cases h)⟩ }
theorem e20m9 : upSs gam n20m9 b20m9 = defBody (inClass (top 20) 9) := rfl
def d20m9 : DefI gam := { at_ := ((Str.ofString "Term"), some (Str.ofString "__repr__")), x := (Str.ofString "__repr__"), q := (Str.ofString "Term.__repr__"), st := inClass (top 20) 9, F := ⟨1, 1, false, b20m9⟩, N := n20m9, ps := [(Str.ofString "self")], lm := false, ks := [], S := ⟨rfl, rfl, rfl, by decide +kernel, rfl, by decide +kernel, by decide +kernel⟩, wf := by decide +kernel, eb := e20m9, ns := rfl, np := rfl, bo := fun _ _ _ _ _ _ => ⟨(fun _ s us hl => match us, hl with | [_], _ => .of_eq rfl), (fun z => by cases z), (fun _ h => by cases h)⟩ }
theorem e20m10 : upSs gam n20m10 b20m10 = defBody (inClass (top 20) 10) := rfl
def d20m10 : DefI gam := { at_ := ((Str.ofString "Term"), some (Str.ofString "__eq__")), x := (Str.ofString "__eq__"), q := (Str.ofString "Term.__eq__"), st := inClass (top 20) 10, F := ⟨2, 2, false, b20m10⟩, N := n20m10, ps := [(Str.ofString "self"), (Str.ofString "other")], lm := false, ks := [], S := ⟨rfl, rfl, rfl, by decide +kernel, rfl, by decide +kernel, by decide +kernel⟩, wf := by decide +kernel, eb := e20m10, ns := rfl, np := rfl, bo := fun _ _ _ _ _ _ => ⟨(fun _ s us hl => match us, hl with | [_, _], _ => .of_eq rfl), (fun z => by cases z), (fun _ h => by cases h)⟩ }
def g0 : PrI := ⟨(Str.ofString "Place"), (Str.ofString "depth"), (Str.ofString "own_depth"), inClass (top 20) 1, (Str.ofString "Term.depth"), ⟨58, 15, 58, 19⟩, ⟨58, 15, 58, 29⟩, ⟨58, 8, 58, 29⟩, rfl, ⟨rfl, rfl, rfl, by decide +kernel, rfl, by decide +kernel, by decide +kernel⟩, fun _ _ _ _ _ _ us hl => match us, hl with | [_], _ => rfl⟩
def g1 : PrI := ⟨(Str.ofString "Place"), (Str.ofString "name"), (Str.ofString "own_name"), inClass (top 21) 1, (Str.ofString "Place.name"), ⟨98, 15, 98, 19⟩, ⟨98, 15, 98, 28⟩, ⟨98, 8, 98, 28⟩, rfl, ⟨rfl, rfl, rfl, by decide +kernel, rfl, by decide +kernel, by decide +kernel⟩, fun _ _ _ _ _ _ us hl => match us, hl with | [_], _ => rfl⟩
def g2 : PrI := ⟨(Str.ofString "End"), (Str.ofString "depth"), (Str.ofString "own_depth"), inClass (top 20) 1, (Str.ofString "Term.depth"), ⟨58, 15, 58, 19⟩, ⟨58, 15, 58, 29⟩, ⟨58, 8, 58, 29⟩, rfl, ⟨rfl, rfl, rfl, by decide +kernel, rfl, by decide +kernel, by decide +kernel⟩, fun _ _ _ _ _ _ us hl => match us, hl with | [_], _ => rfl⟩
def g3 : PrI := ⟨(Str.ofString "End"), (Str.ofString "end"), (Str.ofString "own_end"), inClass (top 22) 1, (Str.ofString "End.end"), ⟨109, 15, 109, 19⟩, ⟨109, 15, 109, 27⟩, ⟨109, 8, 109, 27⟩, rfl, ⟨rfl, rfl, rfl, by decide +kernel, rfl, by decide +kernel, by decide +kernel⟩, fun _ _ _ _ _ _ us hl => match us, hl with | [_], _ => rfl⟩
def g4 : PrI := ⟨(Str.ofString "Lesser"), (Str.ofString "depth"), (Str.ofString "own_depth"), inClass (top 20) 1, (Str.ofString "Term.depth"), ⟨58, 15, 58, 19⟩, ⟨58, 15, 58, 29⟩, ⟨58, 8, 58, 29⟩, rfl, ⟨rfl, rfl, rfl, by decide +kernel, rfl, by decide +kernel, by decide +kernel⟩, fun _ _ _ _ _ _ us hl => match us, hl with | [_], _ => rfl⟩
def g5 : PrI := ⟨(Str.ofString "Lesser"), (Str.ofString "parts"), (Str.ofString "own_parts"), inClass (top 23) 1, (Str.ofString "Lesser.parts"), ⟨118, 15, 118, 19⟩, ⟨118, 15, 118, 29⟩, ⟨118, 8, 118, 29⟩, rfl, ⟨rfl, rfl, rfl, by decide +kernel, rfl, by decide +kernel, by decide +kernel⟩, fun _ _ _ _ _ _ us hl => match us, hl with | [_], _ => rfl⟩
def g6 : PrI := ⟨(Str.ofString "Greater"), (Str.ofString "depth"), (Str.ofString "own_depth"), inClass (top 20) 1, (Str.ofString "Term.depth"), ⟨58, 15, 58, 19⟩, ⟨58, 15, 58, 29⟩, ⟨58, 8, 58, 29⟩, rfl, ⟨rfl, rfl, rfl, by decide +kernel, rfl, by decide +kernel, by decide +kernel⟩, fun _ _ _ _ _ _ us hl => match us, hl with | [_], _ => rfl⟩
def g7 : PrI := ⟨(Str.ofString "Greater"), (Str.ofString "parts"), (Str.ofString "own_parts"), inClass (top 24) 1, (Str.ofString "Greater.parts"), ⟨127, 15, 127, 19⟩, ⟨127, 15, 127, 29⟩, ⟨127, 8, 127, 29⟩, rfl, ⟨rfl, rfl, rfl, by decide +kernel, rfl, by decide +kernel, by decide +kernel⟩, fun _ _ _ _ _ _ us hl => match us, hl with | [_], _ => rfl⟩
def sI : SetI := ⟨(Str.ofString "Term"), inClass (top 20) 0, (Str.ofString "Term.__init__"), (Str.ofString "depth"), (Str.ofString "own_depth"), ⟨54, 8, 54, 12⟩, ⟨54, 8, 54, 22⟩, ⟨54, 25, 54, 30⟩, ⟨54, 8, 54, 30⟩, rfl, ⟨rfl, rfl, rfl, by decide +kernel, rfl, by decide +kernel, by decide +kernel⟩, fun _ _ _ _ _ _ us hl => match us, hl with | [_, _], _ => rfl, by decide +kernel, by decide +kernel⟩
def iI : IniI (Str.ofString "HeldError") := ⟨inClass (top 2) 0, (Str.ofString "HeldError.__init__"), ⟨8, 8, 8, 12⟩, ⟨8, 8, 8, 18⟩, ⟨8, 21, 8, 26⟩, ⟨8, 8, 8, 26⟩, rfl, ⟨rfl, rfl, rfl, by decide +kernel, rfl, by decide +kernel, by decide +kernel⟩, fun T kV doc pm an cdv ct us its hl hi => match us, its, hl, hi with | [_, _], [_], _, _ => ⟨_, rfl, rfl⟩⟩
def txt : Txt := { Γ := gam, els := [.df d10, .df d14, .df d15, .df d16, .df d17, .df d18, .df d19, .df d26, .df d27, .df d28, .df d29, .df d30, .df d31, .df d32, .df d33, .df d34, .df d35, .df d36, .df d37, .df d38, .df d39, .cl d21i, .cl d22i, .cl d23i, .cl d24i, .df d20m6, .df d20m7, .df d20m8, .df d20m9, .df d20m10], prs := [g0, g1, g2, g3, g4, g5, g6, g7], gl := [.str "bottom", .str "top", .tup ["bottom", "top"], .tup ["r0", "r1", "r2", "r3", "r4", "r5", "x0", "x1"], .int 2], hld := (Str.ofString "HeldError"), file := (Str.ofString "/claim/cut.py"), si := sI, ii := iI }
theorem txt_ok : txt.Ok := { nm := by decide +kernel, ks := ks_of (by decide +kernel), kc := kc_of (by decide +kernel), gl := rfl, cn := by decide +kernel, pr := by decide +kernel, sf := sf_of (by decide +kernel) }
end K13E

-- K13z
set_option Elab.async false
set_option linter.all false
set_option maxRecDepth 100000
open PySem PySem.W PyProof.Rows
namespace K13E
open K13
abbrev hk : PySem.W.Hook := Mn.hookM 7 K13E.txt.fa K13E.txt.fn K13E.txt.cl K13E.txt.tf K13E.txt.ex
theorem evl (ns : List Int) (l : ns.length ≤ 63) : ∃ ps, Mn.run K13E.txt.fns (fun _ => none) K13E.txt.gd 24 20 [.val (.rol (ns.map Mn.D.int))] = some (.ret (.val (.bl true)) ps) := ⟨_, K13.law 9 ns l⟩
end K13E
set_option maxRecDepth 100000 in
set_option maxHeartbeats 0 in
theorem PySem.Challenge.cw_heldranks_k13_texts_and_equal_terms_holds : PySem.Challenge.rw_heldranks_k13_texts_and_equal_terms.Holds := by
  w_on; o_law; o_head (K13E.hk); (case hw => w_witness2)
  refine Mn.mn_walkX (l := PySem.Challenge.rw_heldranks_k13_texts_and_equal_terms) (n := 63) (k := 24) rfl (by decide) rfl ⟨rfl, by decide, by decide⟩ ?F
  case F =>
    intro w mg fa h Y G hmg
    obtain ⟨K, KX, s⟩ := Y
    exact ⟨K, KX, s.sys, Mn.law_at0 (t := K13E.txt) K13E.txt_ok rfl (f := 20) KX G s rfl (by decide +kernel) (by decide) hmg (fun ns hl _ => K13E.evl ns hl)⟩
