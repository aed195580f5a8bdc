import PyProof.Rows.All
import Wide.All
import OpenK.AllK
import Wide.FinOn
import PyProof.ReprRoads
import PyProof.TupleOfSeq
import PyProof.Rows.ReprShort
import PySem.Challenge.RW_sevenpedals_k04_words_of_scores
import HandS.ForMost
import HandS.ForExc
import HandS.Lambda
import HandS.CallSlots
import HandS.IsInst
import HandS.TupAny
import HandS.Style
import KE.DataEq
import KE.DataIsa
import KE.DataAny
import KE.DataMinMax
import KE.SortData
import KE.KTupSum
import HandS.Star
import HandS.Zip
import HandS.SetFor
import HandS.Nested
import HandS.WordsExc
import HandS.Small
import HandS.Strs
import HandS.Iter
import HandS.EndTab
import KE.GoesMore
import HandS.FStr
import HandS.Conv
import HandS.Deep
import HandS.Text
import HandS.TupMul
import HandS.RaiseMore
import KE.KExcSuper
import KE.KSuper
import HandS.ExcInit
import HandS.ExcSuper
import HandS.ExcValue
import HandS.TryMany
import HandS.ExcField
import KE.DataCmp
import HandS.DictComp
import HandS.More
set_option Elab.async false
set_option linter.all false
set_option maxRecDepth 100000
/-! Pd1: data over the abstract heap: what a value is worth as data, what stays of it, the environment by slots. -/
namespace Pd
open PySem PySem.Spec PyProof.Rows L2

abbrev D := PyData
def keyD : L2.Key → D
  | .inl i => .int i
  | .inr x => .str x

mutual
/-- the value v is the data d, by what stands in H -/
inductive Dt (K : PySem.W.Frag) (H : Hp) : V → D → Prop
  | non : Dt K H .non .none
  | bl (b : Bool) : Dt K H (.bl b) (.bool b)
  | int (i : Int) : Dt K H (.int i) (.int i)
  | str (x : Str) : Dt K H (.str x) (.str x)
  | lst {a : Addr} {xs : List V} {ds : List D} : H a = some (.lst xs) → DtAll K H xs ds → Dt K H (.ref a) (.list ds)
  | tup {a : Addr} {xs : List V} {ds : List D} : SqT K H a xs → DtAll K H xs ds → Dt K H (.ref a) (.tuple ds)
inductive DtAll (K : PySem.W.Frag) (H : Hp) : List V → List D → Prop
  | nil : DtAll K H [] []
  | cons {v : V} {vs : List V} {d : D} {ds : List D} : Dt K H v d → DtAll K H vs ds → DtAll K H (v :: vs) (d :: ds)
end

/-- what stands stays -/
def Le (H H' : Hp) : Prop := ∀ a o, H a = some o → H' a = some o
theorem Le.refl (H : Hp) : Le H H := fun _ _ h => h
theorem Le.trans {A B C : Hp} (x : Le A B) (y : Le B C) : Le A C := fun a o h => y a o (x a o h)
theorem Le.sqt {K : PySem.W.Frag} {H H' : Hp} {a : Addr} {xs : List V} (e : Le H H') (h : SqT K H a xs) : SqT K H' a xs := by
  rcases h with (h | ⟨o, h⟩) | h
  · exact .inl (.inl (e _ _ h))
  · exact .inl (.inr ⟨o, e _ _ h⟩)
  · exact .inr h

mutual
theorem Dt.mono {K : PySem.W.Frag} {H H' : Hp} (e : Le H H') : ∀ {v : V} {d : D}, Dt K H v d → Dt K H' v d
  | _, _, .non => .non
  | _, _, .bl b => .bl b
  | _, _, .int i => .int i
  | _, _, .str x => .str x
  | _, _, .lst h t => .lst (e _ _ h) (DtAll.mono e t)
  | _, _, .tup h t => .tup (e.sqt h) (DtAll.mono e t)
theorem DtAll.mono {K : PySem.W.Frag} {H H' : Hp} (e : Le H H') : ∀ {vs : List V} {ds : List D}, DtAll K H vs ds → DtAll K H' vs ds
  | _, _, .nil => .nil
  | _, _, .cons h t => .cons (Dt.mono e h) (DtAll.mono e t)
end
mutual
theorem Dt.dp {K : PySem.W.Frag} {H : Hp} : ∀ {v : V} {d : D}, Dt K H v d → Dp K H v d
  | _, _, .non => .non
  | _, _, .bl b => .bl b
  | _, _, .int i => .int i
  | _, _, .str x => .str x
  | _, _, .lst h t => .lst (.inl (.of h)) (DtAll.dp t)
  | _, _, .tup h t => .tup h (DtAll.dp t)
theorem DtAll.dp {K : PySem.W.Frag} {H : Hp} : ∀ {vs : List V} {ds : List D}, DtAll K H vs ds → DpAll K H vs ds
  | _, _, .nil => .nil
  | _, _, .cons h t => .cons (Dt.dp h) (DtAll.dp t)
end
theorem DtAll.length {K : PySem.W.Frag} {H : Hp} : ∀ {vs : List V} {ds : List D}, DtAll K H vs ds → vs.length = ds.length
  | _, _, .nil => rfl
  | _, _, .cons _ t => by simp [DtAll.length t]
theorem DtAll.append {K : PySem.W.Frag} {H : Hp} : ∀ {vs ws : List V} {ds es : List D}, DtAll K H vs ds → DtAll K H ws es → DtAll K H (vs ++ ws) (ds ++ es)
  | _, _, _, _, .nil, s => s
  | _, _, _, _, .cons h t, s => .cons h (DtAll.append t s)
theorem DtAll.get {K : PySem.W.Frag} {H : Hp} : ∀ {vs : List V} {ds : List D} {i : Nat} {d : D}, DtAll K H vs ds → ds[i]? = some d → ∃ v, vs[i]? = some v ∧ Dt K H v d
  | _, _, _, _, .nil, e => by simp at e
  | _, _, 0, _, .cons h _, e => by simp at e; subst e; exact ⟨_, rfl, h⟩
  | _, _, i + 1, _, .cons _ t, e => by
    obtain ⟨v, h1, h2⟩ := DtAll.get (i := i) t (by simpa using e)
    exact ⟨v, by simpa using h1, h2⟩
theorem DtAll.get' {K : PySem.W.Frag} {H : Hp} : ∀ {vs : List V} {ds : List D} {i : Nat} {v : V}, DtAll K H vs ds → vs[i]? = some v → ∃ d, ds[i]? = some d ∧ Dt K H v d
  | _, _, _, _, .nil, e => by simp at e
  | _, _, 0, _, .cons h _, e => by simp at e; subst e; exact ⟨_, rfl, h⟩
  | _, _, i + 1, _, .cons _ t, e => by
    obtain ⟨d, h1, h2⟩ := DtAll.get' (i := i) t (by simpa using e)
    exact ⟨d, by simpa using h1, h2⟩
theorem DtAll.take {K : PySem.W.Frag} {H : Hp} : ∀ {vs : List V} {ds : List D} (n : Nat), DtAll K H vs ds → DtAll K H (vs.take n) (ds.take n)
  | _, _, 0, _ => .nil
  | _, _, _ + 1, .nil => .nil
  | _, _, n + 1, .cons h t => .cons h (DtAll.take n t)
theorem DtAll.drop {K : PySem.W.Frag} {H : Hp} : ∀ {vs : List V} {ds : List D} (n : Nat), DtAll K H vs ds → DtAll K H (vs.drop n) (ds.drop n)
  | _, _, 0, r => r
  | _, _, _ + 1, .nil => .nil
  | _, _, n + 1, .cons _ t => DtAll.drop n t
theorem DtAll.set {K : PySem.W.Frag} {H : Hp} {v : V} {d : D} (h : Dt K H v d) : ∀ {vs : List V} {ds : List D} (n : Nat), DtAll K H vs ds → DtAll K H (vs.set n v) (ds.set n d)
  | _, _, _, .nil => .nil
  | _, _, 0, .cons _ t => .cons h t
  | _, _, n + 1, .cons g t => .cons g (DtAll.set h n t)
theorem DtAll.reverse {K : PySem.W.Frag} {H : Hp} : ∀ {vs : List V} {ds : List D}, DtAll K H vs ds → DtAll K H vs.reverse ds.reverse
  | _, _, .nil => .nil
  | _, _, .cons h t => by
    rw [List.reverse_cons, List.reverse_cons]
    exact (DtAll.reverse t).append (.cons h .nil)
/-- ints -/
theorem DtAll.ints {K : PySem.W.Frag} {H : Hp} : ∀ {vs : List V} {ns : List Int}, DtAll K H vs (ns.map .int) → vs = ns.map .int
  | _, [], .nil => rfl
  | _, n :: ns, .cons h t => by
    cases h
    rw [DtAll.ints t]
    rfl
theorem DtAll.ofInts {K : PySem.W.Frag} {H : Hp} : ∀ (ns : List Int), DtAll K H (ns.map .int) (ns.map .int)
  | [] => .nil
  | n :: ns => .cons (.int n) (DtAll.ofInts ns)
theorem DtAll.strs {K : PySem.W.Frag} {H : Hp} : ∀ {vs : List V} {ns : List Str}, DtAll K H vs (ns.map .str) → vs = ns.map .str
  | _, [], .nil => rfl
  | _, n :: ns, .cons h t => by
    cases h
    rw [DtAll.strs t]
    rfl
theorem DtAll.ofStrs {K : PySem.W.Frag} {H : Hp} : ∀ (ns : List Str), DtAll K H (ns.map .str) (ns.map .str)
  | [] => .nil
  | n :: ns => .cons (.str n) (DtAll.ofStrs ns)
theorem DtAll.bools {K : PySem.W.Frag} {H : Hp} : ∀ {vs : List V} {ns : List Bool}, DtAll K H vs (ns.map .bool) → vs = ns.map .bl
  | _, [], .nil => rfl
  | _, n :: ns, .cons h t => by
    cases h
    rw [DtAll.bools t]
    rfl

/-! ### the heap without some addresses; code objects' tables stand aside -/
/-- no table -/
def NT (o : HO) : Prop := ∀ ps, o ≠ .tbl ps
theorem nt_lst {xs : List V} : NT (.lst xs) := fun _ z => nomatch z
theorem nt_tup {xs : List V} : NT (.tup xs) := fun _ z => nomatch z
def hid (ow : List Addr) (H : Hp) : Hp := fun a => if a ∈ ow then none else match H a with
  | some (.tbl _) => none
  | o => o
theorem hid_some {ow : List Addr} {H : Hp} {a : Addr} {o : HO} (h : hid ow H a = some o) : a ∉ ow ∧ H a = some o ∧ NT o := by
  unfold hid at h
  by_cases m : a ∈ ow
  · rw [if_pos m] at h; cases h
  · rw [if_neg m] at h
    split at h
    · cases h
    · rename_i n
      exact ⟨m, h, fun ps z => n ps (by rw [h, z])⟩
theorem hid_of {ow : List Addr} {H : Hp} {a : Addr} {o : HO} (m : a ∉ ow) (h : H a = some o) (n : NT o) : hid ow H a = some o := by
  unfold hid
  rw [if_neg m]
  split
  · rename_i ps e
    rw [h] at e
    exact absurd (Option.some.inj e) (n ps)
  · exact h
theorem hid_le {ow : List Addr} {H : Hp} : Le (hid ow H) H := fun _ _ h => (hid_some h).2.1
/-- but at fp (and but for tables) what stands stays -/
def SameBut (fp : List Addr) (H H' : Hp) : Prop := ∀ a o, a ∉ fp → NT o → H a = some o → H' a = some o
theorem SameBut.refl (fp : List Addr) (H : Hp) : SameBut fp H H := fun _ _ _ _ h => h
theorem SameBut.trans {fp : List Addr} {A B C : Hp} (x : SameBut fp A B) (y : SameBut fp B C) : SameBut fp A C := fun a o n t h => y a o n t (x a o n t h)
theorem SameBut.of_le {fp : List Addr} {H H' : Hp} (h : Le H H') : SameBut fp H H' := fun a o _ _ e => h a o e
theorem Le.new {H : Hp} {p : Addr} {o : HO} (h : H p = none) : Le H (upd H p o) := fun a u e => by
  rw [upd_ne (ne_of_none e h)]
  exact e
theorem SameBut.new {fp : List Addr} {H : Hp} {p : Addr} {o : HO} (h : H p = none) : SameBut fp H (upd H p o) := .of_le (Le.new h)
/-- nothing stands at p (but perhaps a table) -/
def New (H : Hp) (p : Addr) : Prop := ∀ o, NT o → H p ≠ some o
theorem New.of {H : Hp} {p : Addr} (h : H p = none) : New H p := fun o _ e => by rw [h] at e; cases e
theorem SameBut.free {fp : List Addr} {H H' : Hp} (e : SameBut fp H H') {l : Addr} (n : l ∉ fp) (h : New H' l) : New H l := fun o t q => h o t (e l o n t q)
theorem hid_mono {fp ow ow' : List Addr} {H H' : Hp} (e : SameBut fp H H') (hf : ∀ a ∈ fp, a ∈ ow) (ho : ∀ a ∈ ow', a ∈ ow ∨ New H a) : Le (hid ow H) (hid ow' H') := fun a o h => by
  obtain ⟨n, q, t⟩ := hid_some h
  refine hid_of (fun m => ?_) (e a o (fun m => n (hf a m)) t q) t
  rcases ho a m with z | z
  · exact n z
  · exact z o t q

/-! ### the law's bag, the tables -/
/-- the bag at b, its cells at c -/
def BagAt (H : Hp) (b c : Addr) : Prop := ∃ (b0 b1 b2 : Int) (cells : List Int), H b = some (.lst [.int b0, .int b1, .int b2, .ref c]) ∧ H c = some (.lst (cells.map V.int)) ∧
  0 ≤ b0 ∧ 0 ≤ b1 ∧ b1 < 2147483648 ∧ 0 ≤ b2 ∧ (∀ n ∈ cells, 0 ≤ n) ∧ cells.length ≤ 63 ∧ b ≠ c
structure Ext where
  bag : Option (Addr × Addr)
  tabs : List (Addr × Str)
  /-- things that stay as they are: function objects, code objects -/
  fns : List (Addr × (Heap → Prop))
def fpB : Option (Addr × Addr) → List Addr
  | none => []
  | some (b, c) => [b, c]
def fp (Z : Ext) : List Addr := fpB Z.bag
def RB : Option (Addr × Addr) → Hp → Prop
  | none, _ => True
  | some (b, c), H => BagAt H b c
def RF (fns : List (Addr × (Heap → Prop))) (H : Hp) : Prop := ∀ p ∈ fns, H p.1 = some (.ext p.2)
structure RZ (Z : Ext) (H : Hp) : Prop where
  bag : RB Z.bag H
  tabs : LamX.Tabs Z.tabs H
  fns : RF Z.fns H
theorem RB.frame {z : Option (Addr × Addr)} {H H' : Hp} (h : RB z H) (e : ∀ a ∈ fpB z, H' a = H a) : RB z H' := by
  cases z with
  | none => exact True.intro
  | some z =>
    obtain ⟨b, c⟩ := z
    obtain ⟨b0, b1, b2, cs, h1, h2, h3⟩ := h
    exact ⟨b0, b1, b2, cs, (e b (by simp [fpB])).trans h1, (e c (by simp [fpB])).trans h2, h3⟩
theorem RZ.there {Z : Ext} {H : Hp} (h : RZ Z H) : ∀ a ∈ fp Z, ∃ o, NT o ∧ H a = some o := by
  obtain ⟨h, _, _⟩ := h
  obtain ⟨z, T, F⟩ := Z
  cases z with
  | none => intro a m; simp [fp, fpB] at m
  | some z =>
    obtain ⟨b, c⟩ := z
    obtain ⟨b0, b1, b2, cs, h1, h2, h3⟩ := h
    intro a m
    simp [fp, fpB] at m
    rcases m with rfl | rfl
    · exact ⟨_, nt_lst, h1⟩
    · exact ⟨_, nt_lst, h2⟩
theorem RZ.le {Z : Ext} {H H' : Hp} (h : RZ Z H) (e : Le H H') : RZ Z H' := ⟨h.bag.frame fun a m => by
  obtain ⟨o, _, q⟩ := h.there a m
  rw [q, e a o q], h.tabs.ext e, fun p m => e _ _ (h.fns p m)⟩
/-- a list is written -/
theorem RZ.upd {Z : Ext} {H : Hp} {p : Addr} {us : List V} {o : HO} (h : RZ Z H) (n : p ∉ fp Z) (e : H p = some (.lst us)) : RZ Z (upd H p o) := by
  refine ⟨h.bag.frame fun a m => upd_ne fun q => n (q ▸ m), fun t ht => ?_, fun p' m => ?_⟩
  rotate_left
  · rw [upd_ne (ne_of (h.fns p' m) e (by intro z; cases z))]
    exact h.fns p' m
  obtain ⟨ps, h1, h2, h3⟩ := h.tabs t ht
  refine ⟨ps, by rw [upd_ne (ne_of h1 e (by intro z; cases z))]; exact h1, h2, fun pos cv hc => ?_⟩
  obtain ⟨c, e1, e2⟩ := h3 pos cv hc
  exact ⟨c, e1, by rw [upd_ne (ne_of e2 e (by intro z; unfold LamX.CodeO at z; cases z))]; exact e2⟩

/-! ### values -/
/-- a callable of one argument: what it tells of data, by a predicate transformer -/
abbrev Fn1 := D → (D → Prop) → Prop
inductive Val where
  | d (x : D)
  | own (xs : List D)
  | bor (xs : List D)
  | bag
  | fn (f : Addr) (φ : Fn1)
/-- as data, to be read -/
def Val.rd : Val → Option D
  | .d x => some x
  | .own xs => some (.list xs)
  | .bor xs => some (.list xs)
  | _ => none
/-- as data, to be kept -/
def Val.kp : Val → Option D
  | .d x => some x
  | .own xs => some (.list xs)
  | _ => none
abbrev Ev := List (Option Val)
structure Xn where
  cls : Str
  args : List (Str × D)

/-- what calls of the value at f tell; CL stands for the callables that are known -/
abbrev Calls := Addr → Fn1 → Prop

/-- v is y in H; H0: the heap at the expression's beginning; ow: the owned lists -/
def RV (CL : Calls) (Z : Ext) (K : PySem.W.Frag) (ow : List Addr) (H0 H : Hp) (v : V) : Val → Prop
  | .d x => Dt K (hid ow H) v x
  | .own xs => ∃ p vs, v = .ref p ∧ New H0 p ∧ p ∉ ow ∧ H p = some (.lst vs) ∧ DtAll K (hid (p :: ow) H) vs xs
  | .bor xs => ∃ p vs, v = .ref p ∧ p ∈ ow ∧ p ∉ fp Z ∧ H p = some (.lst vs) ∧ DtAll K (hid ow H) vs xs
  | .bag => ∃ b c, Z.bag = some (b, c) ∧ v = .ref b
  | .fn f φ => v = .ref f ∧ CL f φ
theorem hid_tail {p : Addr} {ow : List Addr} {H : Hp} : Le (hid (p :: ow) H) (hid ow H) := fun a o h => by
  obtain ⟨n, q, t⟩ := hid_some h
  exact hid_of (fun m => n (List.mem_cons_of_mem _ m)) q t
/-- read as data -/
theorem RV.rd {CL : Calls} {Z : Ext} {K : PySem.W.Frag} {ow : List Addr} {H0 H : Hp} {v : V} {y : Val} {d : D} (h : RV CL Z K ow H0 H v y) (e : y.rd = some d) : Dt K H v d := by
  cases y with
  | d x => cases e; exact Dt.mono hid_le h
  | own xs =>
    cases e
    obtain ⟨p, vs, rfl, _, _, hp, ha⟩ := h
    exact .lst hp (DtAll.mono hid_le ha)
  | bor xs =>
    cases e
    obtain ⟨p, vs, rfl, _, _, hp, ha⟩ := h
    exact .lst hp (DtAll.mono hid_le ha)
  | bag => cases e
  | fn f φ => cases e
/-- kept as data -/
theorem RV.kp {CL : Calls} {Z : Ext} {K : PySem.W.Frag} {ow : List Addr} {H0 H : Hp} {v : V} {y : Val} {d : D} (h : RV CL Z K ow H0 H v y) (e : y.kp = some d) : Dt K (hid ow H) v d := by
  cases y with
  | d x => cases e; exact h
  | own xs =>
    cases e
    obtain ⟨p, vs, rfl, _, n, hp, ha⟩ := h
    exact .lst (hid_of n hp nt_lst) (DtAll.mono hid_tail ha)
  | bor xs => cases e
  | bag => cases e
  | fn f φ => cases e
/-- it stays -/
theorem RV.stay {CL : Calls} {Z : Ext} {K : PySem.W.Frag} {ow : List Addr} {H0 H H' : Hp} {v : V} {y : Val} (h : RV CL Z K ow H0 H v y) (e : SameBut (fp Z) H H') (hf : ∀ a ∈ fp Z, a ∈ ow) : RV CL Z K ow H0 H' v y := by
  have m : Le (hid ow H) (hid ow H') := hid_mono e hf fun a h => .inl h
  cases y with
  | d x => exact Dt.mono m h
  | own xs =>
    obtain ⟨p, vs, rfl, h0, n, hp, ha⟩ := h
    exact ⟨p, vs, rfl, h0, n, e p _ (fun z => n (hf p z)) nt_lst hp, DtAll.mono (hid_mono e (fun a h => List.mem_cons_of_mem _ (hf a h)) fun a h => .inl h) ha⟩
  | bor xs =>
    obtain ⟨p, vs, rfl, n, z, hp, ha⟩ := h
    exact ⟨p, vs, rfl, n, z, e p _ z nt_lst hp, DtAll.mono m ha⟩
  | bag => exact h
  | fn f φ => exact h
end Pd

/-! Pd2: what a statement's run means over data: the relation, the judgements, names, operators. -/
namespace Pd
open PySem PySem.Spec PyProof.Rows L2

/-- the ground of a heap: the bag, the owned addresses -/
structure Gr (Z : Ext) (ow : List Addr) (H : Hp) : Prop where
  ext : RZ Z H
  fpo : ∀ a ∈ fp Z, a ∈ ow
  isS : ∀ a ∈ ow, ∃ o, NT o ∧ H a = some o
theorem Gr.step {Z : Ext} {ow : List Addr} {H H' : Hp} (g : Gr Z ow H) (e : SameBut (fp Z) H H') (r : RZ Z H') : Gr Z ow H' := ⟨r, g.fpo, fun a m => by
  by_cases z : a ∈ fp Z
  · exact r.there a z
  · obtain ⟨o, t, q⟩ := g.isS a m
    exact ⟨o, t, e a o z t q⟩⟩
theorem Gr.no {Z : Ext} {ow : List Addr} {H : Hp} (g : Gr Z ow H) {a : Addr} (h : New H a) : a ∉ ow := fun m => by
  obtain ⟨o, t, q⟩ := g.isS a m
  exact h o t q

section
variable (CL : Calls) (Z : Ext) (K : PySem.W.Frag) (ow : List Addr)
/-- what is wanted of each value that P tells -/
def Gd (H0 : Hp) (P : Val → Prop) (Q : VK) : Prop := ∀ y v H', P y → SameBut (fp Z) H0 H' → RZ Z H' → RV CL Z K ow H0 H' v y → Q v H'
/-- an exception as it lies -/
def ExR (mg : Str → Option Value) (x : Xn) (cls : Value) (d : Option Addr) (H : Hp) : Prop :=
  (∃ C, mg x.cls = some (.ref C) ∧ cls = .ref C) ∧ (x.args ≠ [] → ∃ dx fs, d = some dx ∧ H dx = some (.xd fs) ∧ fs.map (·.1) = x.args.map (·.1) ∧ DtAll K (hid ow H) (fs.map (·.2)) (x.args.map (·.2)))
def Bd (mg : Str → Option Value) (W : WX) (σ : L2.St) (H0 : Hp) (Ex : Xn → Prop) : Prop := ∀ x cls d H', Ex x → ExR K ow mg x cls d H' → SameBut (fp Z) H0 H' → RZ Z H' → W cls d σ H'
end
section
variable {CL : Calls} {Z : Ext} {K : PySem.W.Frag} {ow : List Addr} {H0 H1 : Hp}
theorem RV.back {H : Hp} {v : V} {y : Val} (h : RV CL Z K ow H1 H v y) (e : SameBut (fp Z) H0 H1) (hf : ∀ a ∈ fp Z, a ∈ ow) : RV CL Z K ow H0 H v y := by
  cases y with
  | own xs =>
    obtain ⟨p, vs, rfl, h0, n, hp, ha⟩ := h
    exact ⟨p, vs, rfl, e.free (fun z => n (hf p z)) h0, n, hp, ha⟩
  | d x => exact h
  | bor xs => exact h
  | bag => exact h
  | fn f φ => exact h
theorem Gd.step {P : Val → Prop} {Q : VK} (g : Gd CL Z K ow H0 P Q) (e : SameBut (fp Z) H0 H1) (hf : ∀ a ∈ fp Z, a ∈ ow) : Gd CL Z K ow H1 P Q :=
  fun y v H' p s r h => g y v H' p (e.trans s) r (h.back e hf)
theorem Bd.step {mg : Str → Option Value} {W : WX} {σ : L2.St} {Ex : Xn → Prop} (g : Bd Z K ow mg W σ H0 Ex) (e : SameBut (fp Z) H0 H1) : Bd Z K ow mg W σ H1 Ex :=
  fun x cls d H' p r s z => g x cls d H' p r (e.trans s) z
theorem Gd.dat {P : Val → Prop} {Q : VK} (g : Gd CL Z K ow H0 P Q) {x : D} {v : V} {H' : Hp} (p : P (.d x)) (e : Le H0 H') (r : RZ Z H0) (h : Dt K (hid ow H') v x) : Q v H' :=
  g (.d x) v H' p (.of_le e) (r.le e) h
/-- a scalar, the heap as it is -/
theorem Gd.sc {P : Val → Prop} {Q : VK} (g : Gd CL Z K ow H0 P Q) {x : D} {v : V} (p : P (.d x)) (r : RZ Z H0) (h : ∀ H, Dt K H v x) : Q v H0 :=
  g (.d x) v H0 p (.refl _ _) r (h _)
/-- a new tuple -/
theorem Gd.tup {P : Val → Prop} {Q : VK} (g : Gd CL Z K ow H0 P Q) {xs : List D} {vs : List V} {a : Addr} (p : P (.d (.tuple xs))) (gr : Gr Z ow H0) (n : H0 a = none) (h : DtAll K (hid ow H0) vs xs) : Q (.ref a) (upd H0 a (.tup vs)) := by
  refine g.dat p (Le.new n) gr.ext (.tup (.inl (.of (hid_of (gr.no (.of n)) upd_same nt_tup))) (DtAll.mono (fun b o e => ?_) h))
  obtain ⟨m, q, t⟩ := hid_some e
  exact hid_of m (Le.new n b o q) t
/-- a new list -/
theorem Gd.lst {P : Val → Prop} {Q : VK} (g : Gd CL Z K ow H0 P Q) {xs : List D} {vs : List V} {a : Addr} (p : P (.own xs)) (gr : Gr Z ow H0) (n : H0 a = none) (h : DtAll K (hid ow H0) vs xs) : Q (.ref a) (upd H0 a (.lst vs)) := by
  refine g (.own xs) _ _ p (.of_le (Le.new n)) (gr.ext.le (Le.new n)) ⟨a, vs, rfl, .of n, gr.no (.of n), upd_same, DtAll.mono (fun b o e => ?_) h⟩
  obtain ⟨m, q, t⟩ := hid_some e
  refine hid_of (fun z => ?_) (Le.new n b o q) t
  rcases List.mem_cons.mp z with rfl | z
  · rw [n] at q; cases q
  · exact m z
end

/-! ### the environment -/
/-- a slot's value; Hb: the heap at the def's entry -/
def SV (CL : Calls) (Z : Ext) (K : PySem.W.Frag) (ow : List Addr) (Hb H : Hp) (v : V) : Val → Prop
  | .d x => Dt K (hid ow H) v x
  | .own xs => ∃ p vs, v = .ref p ∧ New Hb p ∧ p ∈ ow ∧ p ∉ fp Z ∧ H p = some (.lst vs) ∧ DtAll K (hid ow H) vs xs
  | .bor xs => False
  | .bag => ∃ b c, Z.bag = some (b, c) ∧ v = .ref b
  | .fn f φ => v = .ref f ∧ CL f φ
theorem SV.stay {CL : Calls} {Z : Ext} {K : PySem.W.Frag} {ow : List Addr} {Hb H H' : Hp} {v : V} {y : Val} (h : SV CL Z K ow Hb H v y) (e : SameBut (fp Z) H H') (hf : ∀ a ∈ fp Z, a ∈ ow) : SV CL Z K ow Hb H' v y := by
  have m : Le (hid ow H) (hid ow H') := hid_mono e hf fun a h => .inl h
  cases y with
  | d x => exact Dt.mono m h
  | own xs =>
    obtain ⟨p, vs, rfl, h0, n, z, hp, ha⟩ := h
    exact ⟨p, vs, rfl, h0, n, z, e p _ z nt_lst hp, DtAll.mono m ha⟩
  | bor xs => exact h
  | bag => exact h
  | fn f φ => exact h

/-- ow0: what was owned at the def's entry -/
structure Rel (CL : Calls) (Z : Ext) (K : PySem.W.Frag) (ow0 : List Addr) (Hb : Hp) (S : Hp) (ρ : Ev) (σ : L2.St) (H : Hp) (ow : List Addr) : Prop where
  gr : Gr Z ow H
  len : σ.length = ρ.length
  sb : SameBut (fp Z) Hb H
  sub : ∀ a ∈ ow0, a ∈ ow
  mark : Le S (hid ow H)
  val : ∀ (i : Nat) (y : Val), ρ[i]? = some (some y) → ∃ v, σ[i]? = some (some v) ∧ SV CL Z K ow Hb H v y
  sep : ∀ (i j : Nat) (xs ys : List D) (p : Addr), i ≠ j → ρ[i]? = some (some (.own xs)) → ρ[j]? = some (some (.own ys)) → σ[i]? = some (some (V.ref p)) → σ[j]? = some (some (V.ref p)) → False
section
variable {CL : Calls} {Z : Ext} {K : PySem.W.Frag} {ow0 ow : List Addr} {Hb S H H' : Hp} {ρ : Ev} {σ : L2.St}
theorem Rel.step (r : Rel CL Z K ow0 Hb S ρ σ H ow) (e : SameBut (fp Z) H H') (z : RZ Z H') : Rel CL Z K ow0 Hb S ρ σ H' ow :=
  ⟨r.gr.step e z, r.len, r.sb.trans e, r.sub, r.mark.trans (hid_mono e r.gr.fpo fun _ m => .inl m), fun i y h => by
    obtain ⟨v, h1, h2⟩ := r.val i y h
    exact ⟨v, h1, h2.stay e r.gr.fpo⟩, r.sep⟩
/-- fewer slots are known -/
theorem Rel.weak {ρ' : Ev} {σ' : L2.St} (r : Rel CL Z K ow0 Hb S ρ σ H ow) (hl : σ'.length = ρ'.length) (h : ∀ (i : Nat) (y : Val), ρ'[i]? = some (some y) → ρ[i]? = some (some y) ∧ σ'[i]? = σ[i]?) : Rel CL Z K ow0 Hb S ρ' σ' H ow :=
  ⟨r.gr, hl, r.sb, r.sub, r.mark, fun i y e => by
    obtain ⟨h1, h2⟩ := h i y e
    obtain ⟨v, q1, q2⟩ := r.val i y h1
    exact ⟨v, h2.trans q1, q2⟩, fun i j xs ys p n e1 e2 e3 e4 => by
    obtain ⟨h1, h2⟩ := h i _ e1
    obtain ⟨g1, g2⟩ := h j _ e2
    exact r.sep i j xs ys p n h1 g1 (h2 ▸ e3) (g2 ▸ e4)⟩
end

/-! ### judgements -/
abbrev WE := Ev → (Val → Prop) → (Xn → Prop) → Prop
abbrev WT := Ev → (Bool → Prop) → (Xn → Prop) → Prop
abbrev WA := Ev → (List Val → Prop) → (Xn → Prop) → Prop
structure En where
  nx : Ev → Prop
  rt : Val → Prop
  bk : Ev → Prop := fun _ => False
  ct : Ev → Prop := fun _ => False
  ex : Xn → Ev → Prop := fun _ _ => False
abbrev WS := En → Ev → Prop

structure PEat (X : Cx) (e : Expr) (σ : L2.St) (H : Hp) (Q : VK) : Prop where
  go : ∀ pins s, Inv X pins σ H s → wpAny (model X.prog X.w) X.A (eval e X.env) (EP X pins σ Q) X.xe s
theorem PEat.pe {X : Cx} {e : Expr} : PE X e (PEat X e) := ⟨fun pins s σ H Q I h => h.go pins s I⟩
theorem PEat.of {X : Cx} {e : Expr} {t : TE} (h : PE X e t) {σ : L2.St} {H : Hp} {Q : VK} (q : t σ H Q) : PEat X e σ H Q := ⟨fun pins s I => h.run pins s σ H Q I q⟩
structure PTat (X : Cx) (e : Expr) (σ : L2.St) (H : Hp) (Q : (Bool → Hp → Prop)) : Prop where
  go : ∀ pins s, Inv X pins σ H s → wpAny (model X.prog X.w) X.A (isTrue e X.env (eval e X.env)) (TP X pins σ Q) X.xe s
theorem PTat.pt {X : Cx} {e : Expr} : PT X e (PTat X e) := ⟨fun pins s σ H Q I h => h.go pins s I⟩
theorem PTat.of {X : Cx} {e : Expr} {t : TT} (h : PT X e t) {σ : L2.St} {H : Hp} {Q : Bool → Hp → Prop} (q : t σ H Q) : PTat X e σ H Q := ⟨fun pins s I => h.run pins s σ H Q I q⟩

/-- the setting of a def's body (or a comprehension's block) -/
structure Sg (X : Cx) (W : WX) (Z : Ext) (CL : Calls) (k : Nat) (ow0 : List Addr) (Hb : Hp) : Prop where
  tk : Takes X W
  po : PassesOwn (model X.prog X.w) X.A X.env X.xe
  calm : X.calm = true
  nd : X.N.Nodup
  room : Room k X.A

section
variable (X : Cx) (W : WX) (Z : Ext) (CL : Calls) (ow0 : List Addr) (Hb : Hp)
def SimE (e : Expr) (w : WE) : Prop := ∀ (S : Hp) (ρ : Ev) (σ : L2.St) (H : Hp) (ow : List Addr) (P : Val → Prop) (Ex : Xn → Prop) (Q : VK),
  Rel CL Z X.K ow0 Hb S ρ σ H ow → w ρ P Ex → Gd CL Z X.K ow H P Q → Bd Z X.K ow X.mg W σ H Ex → PEat X e σ H Q
def GdT (H0 : Hp) (P : Bool → Prop) (Q : Bool → Hp → Prop) : Prop := ∀ b H', P b → SameBut (fp Z) H0 H' → RZ Z H' → Q b H'
def SimT (e : Expr) (w : WT) : Prop := ∀ (S : Hp) (ρ : Ev) (σ : L2.St) (H : Hp) (ow : List Addr) (P : Bool → Prop) (Ex : Xn → Prop) (Q : Bool → Hp → Prop),
  Rel CL Z X.K ow0 Hb S ρ σ H ow → w ρ P Ex → GdT Z H P Q → Bd Z X.K ow X.mg W σ H Ex → PTat X e σ H Q
/-- values in a row -/
inductive RVs (K : PySem.W.Frag) (ow : List Addr) (H0 H : Hp) : List V → List Val → Prop
  | nil : RVs K ow H0 H [] []
  | cons {v : V} {vs : List V} {y : Val} {ys : List Val} : RV CL Z K ow H0 H v y → RVs K ow H0 H vs ys → RVs K ow H0 H (v :: vs) (y :: ys)
def GdA (K : PySem.W.Frag) (ow : List Addr) (H0 : Hp) (P : List Val → Prop) (Q : List V → Hp → Prop) : Prop := ∀ ys vs H', P ys → SameBut (fp Z) H0 H' → RZ Z H' → RVs Z CL K ow H0 H' vs ys → Q vs H'
structure PAat (es : List Expr) (σ : L2.St) (H : Hp) (Q : (List V → Hp → Prop)) : Prop where
  go : ∀ (pos : Pos) pins s, Inv X pins σ H s → wpAny (model X.prog X.w) X.A (spliced (backTo pos (starEach es X.env))) (AP X pins σ Q) X.xe s
def SimA (es : List Expr) (w : WA) : Prop := ∀ (S : Hp) (ρ : Ev) (σ : L2.St) (H : Hp) (ow : List Addr) (P : List Val → Prop) (Ex : Xn → Prop) (Q : List V → Hp → Prop),
  Rel CL Z X.K ow0 Hb S ρ σ H ow → w ρ P Ex → GdA Z CL X.K ow H P Q → Bd Z X.K ow X.mg W σ H Ex → PAat X es σ H Q
end
theorem PAat.pa {X : Cx} {es : List Expr} : PA X es (PAat X es) := ⟨fun pos pins s σ H Q I h => h.go pos pins s I⟩
theorem PAat.of {X : Cx} {es : List Expr} {t : TA} (h : PA X es t) {σ : L2.St} {H : Hp} {Q : List V → Hp → Prop} (q : t σ H Q) : PAat X es σ H Q := ⟨fun pos pins s I => h.run pos pins s σ H Q I q⟩

section
variable {X : Cx} {W : WX} {Z : Ext} {CL : Calls} {ow0 : List Addr} {Hb : Hp}
/-! ### names, constants -/
def brw : Val → Val
  | .own xs => .bor xs
  | y => y
def wVar (i : Nat) : WE := fun ρ P _ => match ρ[i]? with
  | some (some y) => P (brw y)
  | _ => False
theorem sim_var (i : Nat) {x : Str} {pos : Pos} (hN : X.N[i]? = some x := by rfl) (hv : Vis X.env.scope x := by first | exact Or.inl rfl | exact Or.inr (Or.inl rfl) | exact Or.inr (Or.inr rfl)) (hd : (x == ("__debug__" : Str)) = false := by decide)
    (hcd : (x == ("__classdict__" : Str)) = false := by decide) : SimE X W Z CL ow0 Hb (.Name x pos) (wVar i) := by
  intro S ρ σ H ow P Ex Q r w g b
  unfold wVar at w
  split at w
  · rename_i y hy
    obtain ⟨v, h1, h2⟩ := r.val i y hy
    refine PEat.of (pe_var hN hv hd hcd) ⟨v, h1, g (brw y) v H w (.refl _ _) r.gr.ext ?_⟩
    cases y with
    | d x => exact h2
    | own xs =>
      obtain ⟨p, vs, rfl, h0, n, z, hp, ha⟩ := h2
      exact ⟨p, vs, rfl, n, z, hp, ha⟩
    | bor xs => exact h2.elim
    | bag => exact h2
    | fn f φ => exact h2
  · exact w.elim
def wC (x : D) : WE := fun _ P _ => P (.d x)
theorem sim_int {i j pos} : SimE X W Z CL ow0 Hb (.Constant (.int i) j pos) (wC (.int i)) := fun S ρ σ H ow P Ex Q r w g b => PEat.of pe_int (g.sc w r.gr.ext fun _ => .int i)
theorem sim_bl {x j pos} : SimE X W Z CL ow0 Hb (.Constant (.bool x) j pos) (wC (.bool x)) := fun S ρ σ H ow P Ex Q r w g b => PEat.of pe_bl (g.sc w r.gr.ext fun _ => .bl x)
theorem sim_non {j pos} : SimE X W Z CL ow0 Hb (.Constant .none j pos) (wC .none) := fun S ρ σ H ow P Ex Q r w g b => PEat.of pe_non (g.sc w r.gr.ext fun _ => .non)
theorem sim_str {x j pos} : SimE X W Z CL ow0 Hb (.Constant (.str x) j pos) (wC (.str x)) := fun S ρ σ H ow P Ex Q r w g b => PEat.of pe_str (g.sc w r.gr.ext fun _ => .str x)
/-- a module's constant -/
theorem sim_glob {x : Str} {v : V} {u : Value} {pos : Pos} {d : D} (hg : Gl X x) (hm : X.mg x = some u) (rv : RelV v u) (hd : ∀ H, Dt X.K H v d) (hdb : (x == ("__debug__" : Str)) = false := by decide) : SimE X W Z CL ow0 Hb (.Name x pos) (wC d) :=
  fun S ρ σ H ow P Ex Q r w g b => PEat.of (pe_glob hg hm rv hdb) (g.sc w r.gr.ext hd)

/-! ### operators -/
abbrev Op2 := Val → Val → (Val → Prop) → Prop
def rD (CL : Calls) (Z : Ext) (K : PySem.W.Frag) (op : Op2) : R2 := fun x y H Q => ∃ ow H0 a b P, Gr Z ow H ∧ RV CL Z K ow H0 H x a ∧ RV CL Z K ow H0 H y b ∧ op a b P ∧ Gd CL Z K ow H P Q
def wOp (op : Op2) (wa wb : WE) : WE := fun ρ P Ex => wa ρ (fun x => wb ρ (fun y => op x y P) Ex) Ex
/-- two expressions in a row -/
theorem two {ea eb : Expr} {wa wb : WE} (ha : SimE X W Z CL ow0 Hb ea wa) (hb : SimE X W Z CL ow0 Hb eb wb) {S : Hp} {ρ : Ev} {σ : L2.St} {H : Hp} {ow : List Addr} {Ex : Xn → Prop} {R : Val → Val → Prop} {Q : V → V → Hp → Prop}
    (r : Rel CL Z X.K ow0 Hb S ρ σ H ow) (b : Bd Z X.K ow X.mg W σ H Ex) (w : wa ρ (fun x => wb ρ (fun y => R x y) Ex) Ex)
    (hQ : ∀ x y v u H', R x y → SameBut (fp Z) H H' → RZ Z H' → RV CL Z X.K ow H H' v x → RV CL Z X.K ow H H' u y → Q v u H') :
    PEat X ea σ H fun v H1 => PEat X eb σ H1 fun u H2 => Q v u H2 := by
  refine ha S ρ σ H ow _ Ex _ r w (fun x v H1 wb1 e1 z1 h1 => ?_) b
  have r1 := r.step e1 z1
  refine hb S ρ σ H1 ow _ Ex _ r1 wb1 (fun y u H2 q e2 z2 h2 => ?_) (b.step e1)
  exact hQ x y v u H2 q (e1.trans e2) z2 (h1.stay e2 r.gr.fpo) (h2.back e1 r.gr.fpo)
theorem sim_op {ea eb : Expr} {wa wb : WE} {o : Operator} {op : Op2} {pos : Pos} (ho : OpR X (binaryOp o) (rD CL Z X.K op)) (ha : SimE X W Z CL ow0 Hb ea wa) (hb : SimE X W Z CL ow0 Hb eb wb) : SimE X W Z CL ow0 Hb (.BinOp ea o eb pos) (wOp op wa wb) := by
  intro S ρ σ H ow P Ex Q r w g b
  refine PEat.of (pe_op ho PEat.pe PEat.pe) ?_
  exact two ha hb r b w fun x y v u H' q e z h1 h2 => ⟨ow, H, x, y, P, r.gr.step e z, h1, h2, q, g.step e r.gr.fpo⟩
theorem sim_cmp {ea eb : Expr} {wa wb : WE} {o : CmpOp} {op : Op2} {pos : Pos} (ho : OpR X (compareOp o) (rD CL Z X.K op)) (ha : SimE X W Z CL ow0 Hb ea wa) (hb : SimE X W Z CL ow0 Hb eb wb) (hm : behindInMarks o eb = false := by first | exact nobehind _ (by decide) (by decide) | rfl) :
    SimE X W Z CL ow0 Hb (.Compare ea [o] [eb] pos) (wOp op wa wb) := by
  intro S ρ σ H ow P Ex Q r w g b
  refine PEat.of (pe_cmpR ho PEat.pe PEat.pe hm) ?_
  exact two ha hb r b w fun x y v u H' q e z h1 h2 => ⟨ow, H, x, y, P, r.gr.step e z, h1, h2, q, g.step e r.gr.fpo⟩

/-! ### tests -/
def wTv (w : WE) : WT := fun ρ P Ex => w ρ (fun y => match y with
  | .d (.bool b) => P b
  | _ => False) Ex
/-- an expression whose value is a truth, as a test -/
theorem sim_tv {e : Expr} {we : WE} (h : SimE X W Z CL ow0 Hb e we) (he : ∀ whole, isTrue e X.env whole = (do let v ← whole; standAt e.pos; holding [v] (truthy v)) := by intro _; rfl) : SimT X W Z CL ow0 Hb e (wTv we) := by
  intro S ρ σ H ow P Ex Q r w g b
  refine PTat.of (pt_val PEat.pe he) ?_
  refine h S ρ σ H ow _ Ex _ r w (fun y v H' p e z q => ?_) b
  cases y with
  | d x =>
    cases x with
    | bool c =>
      cases (q : Dt X.K (hid ow H') v (.bool c))
      exact ⟨c, rfl, g c H' p e z⟩
    | _ => exact (p : False).elim
  | _ => exact (p : False).elim
theorem sim_tcmp {ea eb : Expr} {wa wb : WE} {o : CmpOp} {op : Op2} {pos : Pos} (ho : OpR X (compareOp o) (rD CL Z X.K op)) (ha : SimE X W Z CL ow0 Hb ea wa) (hb : SimE X W Z CL ow0 Hb eb wb) (hm : behindInMarks o eb = false := by first | exact nobehind _ (by decide) (by decide) | rfl) :
    SimT X W Z CL ow0 Hb (.Compare ea [o] [eb] pos) (wTv (wOp op wa wb)) := by
  intro S ρ σ H ow P Ex Q r w g b
  refine PTat.of (pt_cmpR ho PEat.pe PEat.pe hm) ?_
  refine two ha hb r b w fun x y v u H' q e z h1 h2 => ⟨ow, H, x, y, _, r.gr.step e z, h1, h2, q, fun y v H'' p e' z' q' => ?_⟩
  cases y with
  | d x =>
    cases x with
    | bool c =>
      cases (q' : Dt X.K (hid ow H'') v (.bool c))
      exact ⟨c, rfl, g c H'' p (e.trans e') z'⟩
    | _ => exact (p : False).elim
  | _ => exact (p : False).elim
def wTnot (w : WT) : WT := fun ρ P Ex => w ρ (fun b => P (!b)) Ex
theorem sim_tnot {e : Expr} {we : WT} {pos : Pos} (h : SimT X W Z CL ow0 Hb e we) : SimT X W Z CL ow0 Hb (.UnaryOp .Not e pos) (wTnot we) := by
  intro S ρ σ H ow P Ex Q r w g b
  exact PTat.of (pt_not PTat.pt) (h S ρ σ H ow _ Ex _ r w (fun c H' p e z => g (!c) H' p e z) b)
def wTand (wa wb : WT) : WT := fun ρ P Ex => wa ρ (fun b => if b = true then wb ρ P Ex else P false) Ex
def wTor (wa wb : WT) : WT := fun ρ P Ex => wa ρ (fun b => if b = true then P true else wb ρ P Ex) Ex
/-- a test whatever its whole is -/
structure PWat (X : Cx) (e : Expr) (σ : L2.St) (H : Hp) (Q : (Bool → Hp → Prop)) : Prop where
  go : ∀ whole pins s, Inv X pins σ H s → wpAny (model X.prog X.w) X.A (isTrue e X.env whole) (TP X pins σ Q) X.xe s
theorem PWat.pw {e : Expr} : PW X e (PWat X e) := ⟨fun wh pins s σ H Q I h => h.go wh pins s I⟩
theorem PWat.of {e : Expr} {t : TT} (h : PW X e t) {σ : L2.St} {H : Hp} {Q : Bool → Hp → Prop} (q : t σ H Q) : PWat X e σ H Q := ⟨fun wh pins s I => h.run wh pins s σ H Q I q⟩
def SimW (X : Cx) (W : WX) (Z : Ext) (CL : Calls) (ow0 : List Addr) (Hb : Hp) (e : Expr) (w : WT) : Prop := ∀ (S : Hp) (ρ : Ev) (σ : L2.St) (H : Hp) (ow : List Addr) (P : Bool → Prop) (Ex : Xn → Prop) (Q : Bool → Hp → Prop),
  Rel CL Z X.K ow0 Hb S ρ σ H ow → w ρ P Ex → GdT Z H P Q → Bd Z X.K ow X.mg W σ H Ex → PWat X e σ H Q
theorem SimW.t {e : Expr} {we : WT} (h : SimW X W Z CL ow0 Hb e we) : SimT X W Z CL ow0 Hb e we := fun S ρ σ H ow P Ex Q r w g b => PTat.of (PW.pt PWat.pw) (h S ρ σ H ow P Ex Q r w g b)
theorem sim_and1 {e : Expr} {we : WT} {pos : Pos} (h : SimT X W Z CL ow0 Hb e we) : SimW X W Z CL ow0 Hb (.BoolOp .And [e] pos) we := fun S ρ σ H ow P Ex Q r w g b => PWat.of (pw_and1 PTat.pt) (h S ρ σ H ow P Ex Q r w g b)
theorem sim_or1 {e : Expr} {we : WT} {pos : Pos} (h : SimT X W Z CL ow0 Hb e we) : SimW X W Z CL ow0 Hb (.BoolOp .Or [e] pos) we := fun S ρ σ H ow P Ex Q r w g b => PWat.of (pw_or1 PTat.pt) (h S ρ σ H ow P Ex Q r w g b)
theorem sim_and {a b : Expr} {rest : List Expr} {wa wb : WT} {pos : Pos} (ha : SimT X W Z CL ow0 Hb a wa) (hb : SimW X W Z CL ow0 Hb (.BoolOp .And (b :: rest) pos) wb) : SimW X W Z CL ow0 Hb (.BoolOp .And (a :: b :: rest) pos) (wTand wa wb) := by
  intro S ρ σ H ow P Ex Q r w g bd
  refine PWat.of (pw_and PTat.pt PWat.pw) (ha S ρ σ H ow _ Ex _ r w (fun c H' p e z => ?_) bd)
  cases c with
  | true => exact hb S ρ σ H' ow P Ex Q (r.step e z) p (fun c H'' p' e' z' => g c H'' p' (e.trans e') z') (bd.step e)
  | false => exact g false H' p e z
theorem sim_or {a b : Expr} {rest : List Expr} {wa wb : WT} {pos : Pos} (ha : SimT X W Z CL ow0 Hb a wa) (hb : SimW X W Z CL ow0 Hb (.BoolOp .Or (b :: rest) pos) wb) : SimW X W Z CL ow0 Hb (.BoolOp .Or (a :: b :: rest) pos) (wTor wa wb) := by
  intro S ρ σ H ow P Ex Q r w g bd
  refine PWat.of (pw_or PTat.pt PWat.pw) (ha S ρ σ H ow _ Ex _ r w (fun c H' p e z => ?_) bd)
  cases c with
  | false => exact hb S ρ σ H' ow P Ex Q (r.step e z) p (fun c H'' p' e' z' => g c H'' p' (e.trans e') z') (bd.step e)
  | true => exact g true H' p e z
/-! .. as values -/
def wAnd (wa wb : WE) : WE := fun ρ P Ex => wa ρ (fun y => match y with
  | .d (.bool b) => if b = true then wb ρ P Ex else P (.d (.bool false))
  | _ => False) Ex
def wOr (wa wb : WE) : WE := fun ρ P Ex => wa ρ (fun y => match y with
  | .d (.bool b) => if b = true then P (.d (.bool true)) else wb ρ P Ex
  | _ => False) Ex
def wNot (w : WE) : WE := fun ρ P Ex => w ρ (fun y => match y with
  | .d (.bool b) => P (.d (.bool (!b)))
  | _ => False) Ex
theorem sim_vone {e : Expr} {we : WE} {op : BoolOp} {pos : Pos} (h : SimE X W Z CL ow0 Hb e we) : SimE X W Z CL ow0 Hb (.BoolOp op [e] pos) we := fun S ρ σ H ow P Ex Q r w g b => PEat.of (pe_one PEat.pe) (h S ρ σ H ow P Ex Q r w g b)
theorem sim_vand {a b : Expr} {rest : List Expr} {wa wb : WE} {pos : Pos} (ha : SimE X W Z CL ow0 Hb a wa) (hb : SimE X W Z CL ow0 Hb (.BoolOp .And (b :: rest) pos) wb) : SimE X W Z CL ow0 Hb (.BoolOp .And (a :: b :: rest) pos) (wAnd wa wb) := by
  intro S ρ σ H ow P Ex Q r w g bd
  refine PEat.of (pe_and PEat.pe PEat.pe) (ha S ρ σ H ow _ Ex _ r w (fun y v H' p e z h => ?_) bd)
  cases y with
  | d x =>
    cases x with
    | bool c =>
      cases (h : Dt X.K (hid ow H') v (.bool c))
      refine ⟨c, rfl, ?_⟩
      cases c with
      | true => exact hb S ρ σ H' ow P Ex Q (r.step e z) p (g.step e r.gr.fpo) (bd.step e)
      | false => exact (g.step e r.gr.fpo).sc p z fun _ => .bl false
    | _ => exact (p : False).elim
  | _ => exact (p : False).elim
theorem sim_vor {a b : Expr} {rest : List Expr} {wa wb : WE} {pos : Pos} (ha : SimE X W Z CL ow0 Hb a wa) (hb : SimE X W Z CL ow0 Hb (.BoolOp .Or (b :: rest) pos) wb) : SimE X W Z CL ow0 Hb (.BoolOp .Or (a :: b :: rest) pos) (wOr wa wb) := by
  intro S ρ σ H ow P Ex Q r w g bd
  refine PEat.of (pe_or PEat.pe PEat.pe) (ha S ρ σ H ow _ Ex _ r w (fun y v H' p e z h => ?_) bd)
  cases y with
  | d x =>
    cases x with
    | bool c =>
      cases (h : Dt X.K (hid ow H') v (.bool c))
      refine ⟨c, rfl, ?_⟩
      cases c with
      | false => exact hb S ρ σ H' ow P Ex Q (r.step e z) p (g.step e r.gr.fpo) (bd.step e)
      | true => exact (g.step e r.gr.fpo).sc p z fun _ => .bl true
    | _ => exact (p : False).elim
  | _ => exact (p : False).elim
theorem sim_vnot {e : Expr} {we : WE} {pos : Pos} (h : SimE X W Z CL ow0 Hb e we) : SimE X W Z CL ow0 Hb (.UnaryOp .Not e pos) (wNot we) := by
  intro S ρ σ H ow P Ex Q r w g bd
  refine PEat.of (pe_not PEat.pe) (h S ρ σ H ow _ Ex _ r w (fun y v H' p e z h => ?_) bd)
  cases y with
  | d x =>
    cases x with
    | bool c =>
      cases (h : Dt X.K (hid ow H') v (.bool c))
      exact ⟨c, rfl, (g.step e r.gr.fpo).sc p z fun _ => .bl _⟩
    | _ => exact (p : False).elim
  | _ => exact (p : False).elim
/-- a if t else b -/
def wIf (wt : WT) (wa wb : WE) : WE := fun ρ P Ex => wt ρ (fun b => if b = true then wa ρ P Ex else wb ρ P Ex) Ex
theorem sim_ifx {c a b : Expr} {wt : WT} {wa wb : WE} {pos : Pos} (hc : SimT X W Z CL ow0 Hb c wt) (ha : SimE X W Z CL ow0 Hb a wa) (hb : SimE X W Z CL ow0 Hb b wb) : SimE X W Z CL ow0 Hb (.IfExp c a b pos) (wIf wt wa wb) := by
  intro S ρ σ H ow P Ex Q r w g bd
  refine PEat.of (pe_ifExp PTat.pt PEat.pe PEat.pe) (hc S ρ σ H ow _ Ex _ r w (fun c H' p e z => ?_) bd)
  cases c with
  | true => exact ha S ρ σ H' ow P Ex Q (r.step e z) p (g.step e r.gr.fpo) (bd.step e)
  | false => exact hb S ρ σ H' ow P Ex Q (r.step e z) p (g.step e r.gr.fpo) (bd.step e)
end
end Pd

/-! Pd3: operators and comparisons over data. -/
namespace Pd
open PySem PySem.Spec PyProof.Rows L2

/-! ### no dict lies within -/
mutual
theorem Dt.plain {K : PySem.W.Frag} {H : Hp} : ∀ {v : V} {d : D}, Dt K H v d → d.plain = true
  | _, _, .non => rfl
  | _, _, .bl b => rfl
  | _, _, .int i => rfl
  | _, _, .str x => rfl
  | _, _, .lst h t => by show PyData.plainAll _ = true; exact DtAll.plain t
  | _, _, .tup h t => by show PyData.plainAll _ = true; exact DtAll.plain t
theorem DtAll.plain {K : PySem.W.Frag} {H : Hp} : ∀ {vs : List V} {ds : List D}, DtAll K H vs ds → PyData.plainAll ds = true
  | _, _, .nil => rfl
  | _, _, .cons h t => by
    show (_ && _) = true
    rw [Dt.plain h, DtAll.plain t]
    rfl
end

section
variable {X : Cx} {pins : List (Addr × Obj)} {σ : L2.St} {s : Shared} {CL : Calls} {Z : Ext} {K : PySem.W.Frag} {ow : List Addr} {H0 H : Hp} {v u : V} {x y : Val}
theorem RV.plain (h : RV CL Z K ow H0 H v y) {d : D} (e : y.rd = some d) : d.plain = true := (h.rd e).plain
theorem RV.reads (I : Inv X pins σ H s) (h : RV CL Z X.K ow H0 H v y) {d : D} (e : y.rd = some d) {z : Value} (r : RelV v z) : ∃ as, Reads s.heap z d as := Dp.reads I d v z (h.rd e).dp r
/-- a list, its items hidden from the owned ones -/
theorem RV.list (h : RV CL Z K ow H0 H v y) {xs : List D} (e : y.rd = some (.list xs)) : ∃ p vs, v = .ref p ∧ H p = some (.lst vs) ∧ DtAll K (hid ow H) vs xs := by
  cases y with
  | d x =>
    cases e
    cases (h : Dt K (hid ow H) v (.list xs)) with
    | lst h1 h2 => exact ⟨_, _, rfl, hid_le _ _ h1, h2⟩
  | own zs =>
    cases e
    obtain ⟨p, vs, rfl, _, _, hp, ha⟩ := h
    exact ⟨p, vs, rfl, hp, DtAll.mono hid_tail ha⟩
  | bor zs =>
    cases e
    obtain ⟨p, vs, rfl, _, _, hp, ha⟩ := h
    exact ⟨p, vs, rfl, hp, ha⟩
  | bag => cases e
  | fn f φ => cases e
theorem RV.tuple (h : RV CL Z K ow H0 H v y) {xs : List D} (e : y.rd = some (.tuple xs)) : ∃ p vs, v = .ref p ∧ SqT K (hid ow H) p vs ∧ DtAll K (hid ow H) vs xs := by
  cases y with
  | d x =>
    cases e
    cases (h : Dt K (hid ow H) v (.tuple xs)) with
    | tup h1 h2 => exact ⟨_, _, rfl, h1, h2⟩
  | own zs => cases e
  | bor zs => cases e
  | bag => cases e
  | fn f φ => cases e
theorem RV.int (h : RV CL Z K ow H0 H v y) {i : Int} (e : y.rd = some (.int i)) : v = .int i := by
  cases h.rd e
  rfl
theorem RV.str (h : RV CL Z K ow H0 H v y) {i : Str} (e : y.rd = some (.str i)) : v = .str i := by
  cases h.rd e
  rfl
theorem RV.bool (h : RV CL Z K ow H0 H v y) {i : Bool} (e : y.rd = some (.bool i)) : v = .bl i := by
  cases h.rd e
  rfl
end

/-! ### + - * -/
def opAdd : Op2 := fun a b P => match a.rd, b.rd with
  | some (.int i), some (.int j) => P (.d (.int (i + j)))
  | some (.str i), some (.str j) => i.length + j.length ≤ sizeLine ∧ P (.d (.str (i ++ j)))
  | some (.list xs), some (.list ys) => xs.length + ys.length ≤ sizeLine ∧ P (.own (xs ++ ys))
  | some (.tuple xs), some (.tuple ys) => xs.length + ys.length ≤ sizeLine ∧ P (.d (.tuple (xs ++ ys)))
  | _, _ => False
def opSub : Op2 := fun a b P => match a.rd, b.rd with
  | some (.int i), some (.int j) => P (.d (.int (i - j)))
  | _, _ => False
/-- the left factor, or the right one, below 2^64; a list or a text so many times -/
def opMul : Op2 := fun a b P => match a.rd, b.rd with
  | some (.int i), some (.int j) => CMul i j ∧ P (.d (.int (i * j)))
  | some (.list xs), some (.int k) => (-(2 ^ 63) ≤ k ∧ k < 2 ^ 63 ∧ xs.length * k.toNat ≤ sizeLine) ∧ P (.own (List.replicate k.toNat xs).flatten)
  | _, _ => False
def opMod : Op2 := fun a b P => match a.rd, b.rd with
  | some (.int i), some (.int j) => 0 < j ∧ P (.d (.int (i % j)))
  | _, _ => False
def opFdiv : Op2 := fun a b P => match a.rd, b.rd with
  | some (.int i), some (.int j) => CDiv i j ∧ P (.d (.int (i / j)))
  | _, _ => False
theorem DtAll.rep {K : PySem.W.Frag} {H : Hp} {vs : List V} {xs : List D} (h : DtAll K H vs xs) : ∀ n : Nat, DtAll K H (List.replicate n vs).flatten (List.replicate n xs).flatten
  | 0 => .nil
  | n + 1 => by
    simp only [List.replicate_succ, List.flatten_cons]
    exact h.append (DtAll.rep h n)
section
variable {X : Cx} {CL : Calls} {Z : Ext}
theorem or_add : OpR X (binaryOp .Add) (rD CL Z X.K opAdd) := by
  intro pins s σ H x y v u Q I rx ry h
  obtain ⟨ow, H0, a, b, P, gr, ha, hb, w, g⟩ := h
  unfold opAdd at w
  split at w
  · rename_i i j e1 e2
    rw [ha.int e1] at rx
    rw [hb.int e2] at ry
    exact op_add pins s σ H _ _ v u Q I rx ry ⟨i, j, rfl, rfl, g.sc w gr.ext fun _ => .int _⟩
  · rename_i i j e1 e2
    rw [ha.str e1] at rx
    rw [hb.str e2] at ry
    exact op_add_str pins s σ H _ _ v u Q I rx ry ⟨i, j, rfl, rfl, w.1, g.sc w.2 gr.ext fun _ => .str _⟩
  · rename_i xs ys e1 e2
    obtain ⟨p, vs, rfl, h1, a1⟩ := ha.list e1
    obtain ⟨q, ws, rfl, h2, a2⟩ := hb.list e2
    refine op_cat pins s σ H _ _ v u Q I rx ry ⟨p, q, vs, ws, rfl, rfl, h1, h2, by rw [a1.length, a2.length]; exact w.1, fun l hl => ?_⟩
    exact g.lst w.2 gr hl (a1.append a2)
  · rename_i xs ys e1 e2
    obtain ⟨p, vs, rfl, h1, a1⟩ := ha.tuple e1
    obtain ⟨q, ws, rfl, h2, a2⟩ := hb.tuple e2
    refine op_catA pins s σ H _ _ v u Q I rx ry ⟨p, q, vs, ws, rfl, rfl, hid_le.sqt h1, hid_le.sqt h2, by rw [a1.length, a2.length]; exact w.1, fun z => ?_, fun z1 z2 => ?_, fun _ _ l hl => ?_⟩
    · subst z
      cases a1
      exact g (.d (.tuple ys)) _ H w.2 (.refl _ _) gr.ext (.tup h2 a2)
    · subst z2
      cases a2
      exact g (.d (.tuple xs)) _ H (by have z := w.2; rw [List.append_nil] at z; exact z) (.refl _ _) gr.ext (.tup h1 a1)
    · exact g.tup w.2 gr hl (a1.append a2)
  · exact w.elim
theorem or_sub : OpR X (binaryOp .Sub) (rD CL Z X.K opSub) := by
  intro pins s σ H x y v u Q I rx ry h
  obtain ⟨ow, H0, a, b, P, gr, ha, hb, w, g⟩ := h
  unfold opSub at w
  split at w
  · rename_i i j e1 e2
    rw [ha.int e1] at rx
    rw [hb.int e2] at ry
    exact op_sub pins s σ H _ _ v u Q I rx ry ⟨i, j, rfl, rfl, g.sc w gr.ext fun _ => .int _⟩
  · exact w.elim
theorem or_mul : OpR X (binaryOp .Mult) (rD CL Z X.K opMul) := by
  intro pins s σ H x y v u Q I rx ry h
  obtain ⟨ow, H0, a, b, P, gr, ha, hb, w, g⟩ := h
  unfold opMul at w
  split at w
  · rename_i i j e1 e2
    rw [ha.int e1] at rx
    rw [hb.int e2] at ry
    exact op_mul pins s σ H _ _ v u Q I rx ry ⟨i, j, rfl, rfl, w.1, g.sc w.2 gr.ext fun _ => .int _⟩
  · rename_i xs k e1 e2
    obtain ⟨p, vs, rfl, h1, a1⟩ := ha.list e1
    rw [hb.int e2] at ry
    refine op_rep pins s σ H _ _ v u Q I rx ry ⟨p, k, vs, rfl, rfl, h1, w.1.1, w.1.2.1, by rw [a1.length]; exact w.1.2.2, fun l hl => ?_⟩
    exact g.lst w.2 gr hl (a1.rep _)
  · exact w.elim
theorem or_mod : OpR X (binaryOp .Mod) (rD CL Z X.K opMod) := by
  intro pins s σ H x y v u Q I rx ry h
  obtain ⟨ow, H0, a, b, P, gr, ha, hb, w, g⟩ := h
  unfold opMod at w
  split at w
  · rename_i i j e1 e2
    rw [ha.int e1] at rx
    rw [hb.int e2] at ry
    exact op_mod pins s σ H _ _ v u Q I rx ry ⟨i, j, rfl, rfl, w.1, g.sc w.2 gr.ext fun _ => .int _⟩
  · exact w.elim
theorem or_fdiv : OpR X (binaryOp .FloorDiv) (rD CL Z X.K opFdiv) := by
  intro pins s σ H x y v u Q I rx ry h
  obtain ⟨ow, H0, a, b, P, gr, ha, hb, w, g⟩ := h
  unfold opFdiv at w
  split at w
  · rename_i i j e1 e2
    rw [ha.int e1] at rx
    rw [hb.int e2] at ry
    exact op_fdiv pins s σ H _ _ v u Q I rx ry ⟨i, j, rfl, rfl, w.1, g.sc w.2 gr.ext fun _ => .int _⟩
  · exact w.elim
/-- -a -/
def wNeg (w : WE) : WE := fun ρ P Ex => w ρ (fun y => match y with
  | .d (.int i) => P (.d (.int (-i)))
  | _ => False) Ex
theorem sim_neg {W : WX} {ow0 : List Addr} {Hb : Hp} {e : Expr} {we : WE} {pos : Pos} (h : SimE X W Z CL ow0 Hb e we) : SimE X W Z CL ow0 Hb (.UnaryOp .USub e pos) (wNeg we) := by
  intro S ρ σ H ow P Ex Q r w g bd
  refine PEat.of (pe_un un_neg PEat.pe) (h S ρ σ H ow _ Ex _ r w (fun y v H' p e z h => ?_) bd)
  cases y with
  | d x =>
    cases x with
    | int c =>
      cases (h : Dt X.K (hid ow H') v (.int c))
      exact ⟨c, rfl, (g.step e r.gr.fpo).sc p z fun _ => .int _⟩
    | _ => exact (p : False).elim
  | _ => exact (p : False).elim
end

/-! ### comparisons -/
def opCmp (f : Int → Int → Bool) (g : List Nat → List Nat → Bool) : Op2 := fun a b P => match a.rd, b.rd with
  | some (.int i), some (.int j) => P (.d (.bool (f i j)))
  | some (.str i), some (.str j) => P (.d (.bool (g i.cps.toList j.cps.toList)))
  | _, _ => False
abbrev opLt : Op2 := opCmp (fun i j => decide (i < j)) (fun i j => decide (i < j))
abbrev opLe : Op2 := opCmp (fun i j => decide (i ≤ j)) (fun i j => !decide (j < i))
abbrev opGt : Op2 := opCmp (fun i j => decide (j < i)) (fun i j => decide (j < i))
abbrev opGe : Op2 := opCmp (fun i j => decide (j ≤ i)) (fun i j => !decide (i < j))
section
variable {X : Cx} {CL : Calls} {Z : Ext}
theorem or_cmp {o : CmpOp} {f : Int → Int → Bool} {g : List Nat → List Nat → Bool} (hi : OpR X (compareOp o) (rI0 fun i j => .bl (f i j)))
    (hs : OpR X (compareOp o) (fun x y H Q => ∃ i j, x = .str i ∧ y = .str j ∧ Q (.bl (g i.cps.toList j.cps.toList)) H)) : OpR X (compareOp o) (rD CL Z X.K (opCmp f g)) := by
  intro pins s σ H x y v u Q I rx ry h
  obtain ⟨ow, H0, a, b, P, gr, ha, hb, w, gd⟩ := h
  unfold opCmp at w
  split at w
  · rename_i i j e1 e2
    rw [ha.int e1] at rx
    rw [hb.int e2] at ry
    exact hi pins s σ H _ _ v u Q I rx ry ⟨i, j, rfl, rfl, gd.sc w gr.ext fun _ => .bl _⟩
  · rename_i i j e1 e2
    rw [ha.str e1] at rx
    rw [hb.str e2] at ry
    exact hs pins s σ H _ _ v u Q I rx ry ⟨i, j, rfl, rfl, gd.sc w gr.ext fun _ => .bl _⟩
  · exact w.elim
theorem or_lt : OpR X (compareOp .Lt) (rD CL Z X.K opLt) := or_cmp op_lt op_lt_str
theorem or_le : OpR X (compareOp .LtE) (rD CL Z X.K opLe) := or_cmp op_le op_le_str
theorem or_gt : OpR X (compareOp .Gt) (rD CL Z X.K opGt) := or_cmp op_gt op_gt_str
theorem or_ge : OpR X (compareOp .GtE) (rD CL Z X.K opGe) := or_cmp op_ge op_ge_str
/-- ==, != of any data -/
def opEq : Op2 := fun a b P => match a.rd, b.rd with
  | some x, some y => min x.depth y.depth ≤ 100 ∧ P (.d (.bool (PyData.eqv x y)))
  | _, _ => False
def opNe : Op2 := fun a b P => match a.rd, b.rd with
  | some x, some y => min x.depth y.depth ≤ 100 ∧ P (.d (.bool (!PyData.eqv x y)))
  | _, _ => False
theorem or_eq (hu : X.A.units + 200 < cLine) : OpR X (compareOp .Eq) (rD CL Z X.K opEq) := by
  intro pins s σ H x y v u Q I rx ry h
  obtain ⟨ow, H0, a, b, P, gr, ha, hb, w, gd⟩ := h
  unfold opEq at w
  split at w
  · rename_i i j e1 e2
    obtain ⟨as, r1⟩ := ha.reads I e1 rx
    obtain ⟨bs, r2⟩ := hb.reads I e2 ry
    exact SeqAt.eq_plain r1 r2 (ha.plain e1) (hb.plain e2) (by omega) ⟨.bl _, H, I, rfl, gd.sc w.2 gr.ext fun _ => .bl _⟩
  · exact w.elim
theorem or_ne (hu : X.A.units + 200 < cLine) : OpR X (compareOp .NotEq) (rD CL Z X.K opNe) := by
  intro pins s σ H x y v u Q I rx ry h
  obtain ⟨ow, H0, a, b, P, gr, ha, hb, w, gd⟩ := h
  unfold opNe at w
  split at w
  · rename_i i j e1 e2
    obtain ⟨as, r1⟩ := ha.reads I e1 rx
    obtain ⟨bs, r2⟩ := hb.reads I e2 ry
    exact SeqAt.ne_plain r1 r2 (ha.plain e1) (hb.plain e2) (by omega) ⟨.bl _, H, I, rfl, gd.sc w.2 gr.ext fun _ => .bl _⟩
  · exact w.elim
/-- in, not in: a list, a tuple; a text in a text -/
def opInB (neg : Bool) : Op2 := fun a b P => match a.rd, b.rd with
  | some x, some (.list ys) => min (PyData.depthAll ys) x.depth ≤ 100 ∧ P (.d (.bool (neg ^^ ys.any fun y => PyData.eqv y x)))
  | some x, some (.tuple ys) => min (PyData.depthAll ys) x.depth ≤ 100 ∧ P (.d (.bool (neg ^^ ys.any fun y => PyData.eqv y x)))
  | some (.str i), some (.str j) => P (.d (.bool (neg ^^ !(Builtin.Str.occurrences j i 0 j.length 1).isEmpty)))
  | _, _ => False
abbrev opIn : Op2 := opInB false
abbrev opNin : Op2 := opInB true
theorem or_in (hu : X.A.units + 200 < cLine) : OpR X (compareOp .In) (rD CL Z X.K opIn) := by
  intro pins s σ H x y v u Q I rx ry h
  obtain ⟨ow, H0, a, b, P, gr, ha, hb, w, gd⟩ := h
  unfold opIn opInB at w
  split at w
  · rename_i i j e1 e2
    obtain ⟨as, r1⟩ := ha.reads I e1 rx
    obtain ⟨bs, r2⟩ := hb.reads I e2 ry
    exact SeqAt.in_list_data r2 r1 (hb.plain e2) (ha.plain e1) (by omega) ⟨.bl _, H, I, rfl, gd.sc (by have z := w.2; rw [Bool.false_xor] at z; exact z) gr.ext fun _ => .bl _⟩
  · rename_i i j e1 e2
    obtain ⟨as, r1⟩ := ha.reads I e1 rx
    obtain ⟨bs, r2⟩ := hb.reads I e2 ry
    exact SeqAt.in_tuple_data r2 r1 (hb.plain e2) (ha.plain e1) (by omega) ⟨.bl _, H, I, rfl, gd.sc (by have z := w.2; rw [Bool.false_xor] at z; exact z) gr.ext fun _ => .bl _⟩
  · rename_i i j e1 e2
    rw [ha.str e1] at rx
    rw [hb.str e2] at ry
    exact op_in_str pins s σ H _ _ v u Q I rx ry ⟨i, j, rfl, rfl, gd.sc (by have z := w; rw [Bool.false_xor] at z; exact z) gr.ext fun _ => .bl _⟩
  · exact w.elim
theorem or_nin (hu : X.A.units + 200 < cLine) : OpR X (compareOp .NotIn) (rD CL Z X.K opNin) := by
  intro pins s σ H x y v u Q I rx ry h
  obtain ⟨ow, H0, a, b, P, gr, ha, hb, w, gd⟩ := h
  unfold opNin opInB at w
  split at w
  · rename_i i j e1 e2
    obtain ⟨as, r1⟩ := ha.reads I e1 rx
    obtain ⟨bs, r2⟩ := hb.reads I e2 ry
    exact SeqAt.notIn_list_data r2 r1 (hb.plain e2) (ha.plain e1) (by omega) ⟨.bl _, H, I, rfl, gd.sc (by have z := w.2; rw [Bool.true_xor] at z; exact z) gr.ext fun _ => .bl _⟩
  · rename_i i j e1 e2
    obtain ⟨as, r1⟩ := ha.reads I e1 rx
    obtain ⟨bs, r2⟩ := hb.reads I e2 ry
    exact SeqAt.notIn_tuple_data r2 r1 (hb.plain e2) (ha.plain e1) (by omega) ⟨.bl _, H, I, rfl, gd.sc (by have z := w.2; rw [Bool.true_xor] at z; exact z) gr.ext fun _ => .bl _⟩
  · rename_i i j e1 e2
    rw [ha.str e1] at rx
    rw [hb.str e2] at ry
    exact op_notin_str pins s σ H _ _ v u Q I rx ry ⟨i, j, rfl, rfl, gd.sc (by have z := w; rw [Bool.true_xor] at z; exact z) gr.ext fun _ => .bl _⟩
  · exact w.elim
/-- is, is not, of truths -/
def opIsB (neg : Bool) : Op2 := fun a b P => match a.rd, b.rd with
  | some (.bool i), some (.bool j) => P (.d (.bool (neg ^^ decide (i = j))))
  | some (.int _), some (.bool _) => P (.d (.bool neg))
  | _, _ => False
theorem or_isB : OpR X (compareOp .Is) (rD CL Z X.K (opIsB false)) := by
  intro pins s σ H x y v u Q I rx ry h
  obtain ⟨ow, H0, a, b, P, gr, ha, hb, w, gd⟩ := h
  unfold opIsB at w
  split at w
  · rename_i i j e1 e2
    rw [ha.bool e1] at rx
    rw [hb.bool e2] at ry
    exact op_isBl pins s σ H _ _ v u Q I rx ry ⟨i, j, rfl, rfl, gd.sc (by have z := w; rw [Bool.false_xor] at z; exact z) gr.ext fun _ => .bl _⟩
  · rename_i i j e1 e2
    rw [ha.int e1] at rx
    rw [hb.bool e2] at ry
    obtain ⟨t, rfl⟩ := rx
    cases ry
    exact wpAny_is_other rfl (fun z => nomatch z) ⟨.bl false, H, I, rfl, gd.sc w gr.ext fun _ => .bl _⟩
  · exact w.elim
theorem or_isnotB : OpR X (compareOp .IsNot) (rD CL Z X.K (opIsB true)) := by
  intro pins s σ H x y v u Q I rx ry h
  obtain ⟨ow, H0, a, b, P, gr, ha, hb, w, gd⟩ := h
  unfold opIsB at w
  split at w
  · rename_i i j e1 e2
    rw [ha.bool e1] at rx
    rw [hb.bool e2] at ry
    exact op_notBl pins s σ H _ _ v u Q I rx ry ⟨i, j, rfl, rfl, gd.sc (by have z := w; rw [Bool.true_xor] at z; exact z) gr.ext fun _ => .bl _⟩
  · rename_i i j e1 e2
    rw [ha.int e1] at rx
    rw [hb.bool e2] at ry
    obtain ⟨t, rfl⟩ := rx
    cases ry
    exact wpAny_isNot_other rfl (fun z => nomatch z) ⟨.bl true, H, I, rfl, gd.sc w gr.ext fun _ => .bl _⟩
  · exact w.elim
/-- is None -/
def isNon : Val → Bool
  | .d .none => true
  | _ => false
theorem RV.isNon {K : PySem.W.Frag} {ow : List Addr} {H0 H : Hp} {v : V} {y : Val} (h : RV CL Z K ow H0 H v y) : decide (v = .non) = isNon y := by
  cases y with
  | d x =>
    have h : Dt K (hid ow H) v x := h
    cases h <;> rfl
  | own xs => obtain ⟨p, vs, rfl, _⟩ := h; rfl
  | bor xs => obtain ⟨p, vs, rfl, _⟩ := h; rfl
  | bag => obtain ⟨b, c, _, rfl⟩ := h; rfl
  | fn f φ => obtain ⟨rfl, _⟩ := h; rfl
def wIsN (neg : Bool) (w : WE) : WE := fun ρ P Ex => w ρ (fun y => P (.d (.bool (neg ^^ isNon y)))) Ex
variable {W : WX} {ow0 : List Addr} {Hb : Hp} {e : Expr} {we : WE} {pos : Pos}
theorem sim_isN {j p2} (h : SimE X W Z CL ow0 Hb e we) : SimE X W Z CL ow0 Hb (.Compare e [.Is] [.Constant .none j p2] pos) (wIsN false we) := by
  intro S ρ σ H ow P Ex Q r w g bd
  refine PEat.of (pe_cmp (pc_isN PEat.pe) rfl) (h S ρ σ H ow _ Ex _ r w (fun y v H' p e z h => ?_) bd)
  rw [h.isNon]
  rw [Bool.false_xor] at p
  exact (g.step e r.gr.fpo).sc p z fun _ => .bl _
theorem sim_notN {j p2} (h : SimE X W Z CL ow0 Hb e we) : SimE X W Z CL ow0 Hb (.Compare e [.IsNot] [.Constant .none j p2] pos) (wIsN true we) := by
  intro S ρ σ H ow P Ex Q r w g bd
  refine PEat.of (pe_cmp (pc_notN PEat.pe) rfl) (h S ρ σ H ow _ Ex _ r w (fun y v H' p e z h => ?_) bd)
  rw [h.isNon]
  rw [Bool.true_xor] at p
  exact (g.step e r.gr.fpo).sc p z fun _ => .bl _
/-- a < b < c, as a value -/
def wChain (op op2 : Op2) (wa wb wc : WE) : WE := fun ρ P Ex => wa ρ (fun x => wb ρ (fun y => op x y (fun k => match k with
  | .d (.bool true) => wc ρ (fun z => op2 y z P) Ex
  | .d (.bool false) => P (.d (.bool false))
  | _ => False)) Ex) Ex
theorem sim_chain {a b c : Expr} {wa wb wc : WE} {o o2 : CmpOp} {op op2 : Op2} (ho : OpR X (compareOp o) (rD CL Z X.K op)) (ho2 : OpR X (compareOp o2) (rD CL Z X.K op2)) (ha : SimE X W Z CL ow0 Hb a wa) (hb : SimE X W Z CL ow0 Hb b wb) (hc : SimE X W Z CL ow0 Hb c wc) 
    (hm : lastMarks [o, o2] [b, c] = false := by rfl) :
    SimE X W Z CL ow0 Hb (.Compare a [o, o2] [b, c] pos) (wChain op op2 wa wb wc) := by
  intro S ρ σ H ow P Ex Q r w g bd
  refine PEat.of (pe_chain ho ho2 PEat.pe PEat.pe PEat.pe hm) ?_
  refine two ha hb r bd w fun x y v u H' q e z h1 h2 => ⟨ow, H, x, y, _, r.gr.step e z, h1, h2, q, fun k t H'' p' e' z' q' => ?_⟩
  cases k with
  | d k =>
    cases k with
    | bool k =>
      cases (q' : Dt X.K (hid ow H'') t (.bool k))
      refine ⟨k, rfl, ?_⟩
      cases k with
      | true =>
        refine hc S ρ σ H'' ow _ Ex _ (r.step (e.trans e') z') p' (fun y3 v3 H3 p3 e3 z3 h3 => ?_) (bd.step (e.trans e'))
        exact ⟨ow, H, y, y3, P, r.gr.step ((e.trans e').trans e3) z3, h2.stay (e'.trans e3) r.gr.fpo, h3.back (e.trans e') r.gr.fpo, p3, g.step ((e.trans e').trans e3) r.gr.fpo⟩
      | false => exact (g.step (e.trans e') r.gr.fpo).sc p' z' fun _ => .bl _
    | _ => exact (p' : False).elim
  | _ => exact (p' : False).elim
end
end Pd

/-! Pd4: arguments, displays, calls of built-ins, subscripts, slices over data. -/
namespace Pd
open PySem PySem.Spec PyProof.Rows L2
section
variable {CL : Calls} {Z : Ext} {K : PySem.W.Frag} {ow : List Addr} {H0 H H' : Hp}
theorem RVs.stay : ∀ {vs : List V} {ys : List Val}, RVs Z CL K ow H0 H vs ys → SameBut (fp Z) H H' → (∀ a ∈ fp Z, a ∈ ow) → RVs Z CL K ow H0 H' vs ys
  | _, _, .nil, _, _ => .nil
  | _, _, .cons h t, e, f => .cons (h.stay e f) (RVs.stay t e f)
theorem RVs.back : ∀ {vs : List V} {ys : List Val} {H1 : Hp}, RVs Z CL K ow H1 H vs ys → SameBut (fp Z) H0 H1 → (∀ a ∈ fp Z, a ∈ ow) → RVs Z CL K ow H0 H vs ys
  | _, _, _, .nil, _, _ => .nil
  | _, _, _, .cons h t, e, f => .cons (h.back e f) (RVs.back t e f)
theorem RVs.length : ∀ {vs : List V} {ys : List Val}, RVs Z CL K ow H0 H vs ys → vs.length = ys.length
  | _, _, .nil => rfl
  | _, _, .cons _ t => by simp [RVs.length t]
/-- all, as data to be kept -/
def keeps : List Val → Option (List D)
  | [] => some []
  | y :: ys => match y.kp, keeps ys with
    | some d, some ds => some (d :: ds)
    | _, _ => none
theorem RVs.keeps : ∀ {vs : List V} {ys : List Val} {ds : List D}, RVs Z CL K ow H0 H vs ys → keeps ys = some ds → DtAll K (hid ow H) vs ds
  | _, _, _, .nil, e => by cases e; exact .nil
  | _, _ :: ys, ds, .cons (y := y) h t, e => by
    unfold Pd.keeps at e
    cases e1 : y.kp with
    | none => rw [e1] at e; cases e
    | some d =>
      cases e2 : Pd.keeps ys with
      | none => rw [e1, e2] at e; cases e
      | some es =>
        rw [e1, e2] at e
        cases e
        exact .cons (h.kp e1) (RVs.keeps t e2)
end

section
variable {X : Cx} {W : WX} {Z : Ext} {CL : Calls} {ow0 : List Addr} {Hb : Hp}
/-! ### arguments -/
def wNil : WA := fun _ P _ => P []
def wCons (w : WE) (ws : WA) : WA := fun ρ P Ex => w ρ (fun y => ws ρ (fun ys => P (y :: ys)) Ex) Ex
theorem sim_nil : SimA X W Z CL ow0 Hb [] wNil := fun S ρ σ H ow P Ex Q r w g b => PAat.of pa_nil (g [] [] H w (.refl _ _) r.gr.ext .nil)
theorem sim_cons {e : Expr} {es : List Expr} {we : WE} {ws : WA} (he : SimE X W Z CL ow0 Hb e we) (hs : SimA X W Z CL ow0 Hb es ws) (hst : starEach (e :: es) X.env = (false, eval e X.env) :: starEach es X.env := by rfl) : SimA X W Z CL ow0 Hb (e :: es) (wCons we ws) := by
  intro S ρ σ H ow P Ex Q r w g b
  refine PAat.of (pa_cons PEat.pe PAat.pa hst) (he S ρ σ H ow _ Ex _ r w (fun y v H1 p1 e1 z1 h1 => ?_) b)
  refine hs S ρ σ H1 ow _ Ex _ (r.step e1 z1) p1 (fun ys vs H2 p2 e2 z2 h2 => ?_) (b.step e1)
  exact g (y :: ys) (v :: vs) H2 p2 (e1.trans e2) z2 (.cons (h1.stay e2 r.gr.fpo) (h2.back e1 r.gr.fpo))
/-- *e among arguments or items -/
def wStar (w : WE) (ws : WA) : WA := fun ρ P Ex => w ρ (fun y => match y.rd with
  | some (.list ds) => ws ρ (fun ys => P (ds.map Val.d ++ ys)) Ex
  | some (.tuple ds) => ws ρ (fun ys => P (ds.map Val.d ++ ys)) Ex
  | _ => False) Ex
theorem RVs.ofAll {K : PySem.W.Frag} {ow : List Addr} {H0 H : Hp} : ∀ {vs : List V} {ds : List D}, DtAll K (hid ow H) vs ds → RVs Z CL K ow H0 H vs (ds.map Val.d)
  | _, _, .nil => .nil
  | _, _, .cons h t => .cons h (RVs.ofAll t)
theorem RVs.append {K : PySem.W.Frag} {ow : List Addr} {H0 H : Hp} : ∀ {vs ws : List V} {ys zs : List Val}, RVs Z CL K ow H0 H vs ys → RVs Z CL K ow H0 H ws zs → RVs Z CL K ow H0 H (vs ++ ws) (ys ++ zs)
  | _, _, _, _, .nil, s => s
  | _, _, _, _, .cons h t, s => .cons h (RVs.append t s)
theorem sim_star {e : Expr} {p : Pos} {es : List Expr} {we : WE} {ws : WA} (he : SimE X W Z CL ow0 Hb e we) (hs : SimA X W Z CL ow0 Hb es ws) (hst : starEach (.Starred e p :: es) X.env = (true, eval e X.env) :: starEach es X.env := by rfl) : SimA X W Z CL ow0 Hb (.Starred e p :: es) (wStar we ws) := by
  intro S ρ σ H ow P Ex Q r w g b
  refine PAat.of (StX.pa_star PEat.pe PAat.pa hst) (he S ρ σ H ow _ Ex _ r w (fun y v H1 p1 e1 z1 h1 => ?_) b)
  split at p1
  · rename_i ds ed
    obtain ⟨q, vs, rfl, hq, ha⟩ := h1.list ed
    refine ⟨q, vs, rfl, .inr (.inl (.of hq)), ?_⟩
    refine hs S ρ σ H1 ow _ Ex _ (r.step e1 z1) p1 (fun ys us H2 p2 e2 z2 h2 => ?_) (b.step e1)
    exact g _ _ H2 p2 (e1.trans e2) z2 (.append (.ofAll (DtAll.mono (hid_mono e2 r.gr.fpo fun _ m => .inl m) ha)) (h2.back e1 r.gr.fpo))
  · rename_i ds ed
    obtain ⟨q, vs, rfl, hq, ha⟩ := h1.tuple ed
    refine ⟨q, vs, rfl, .inl (hid_le.sqt hq), ?_⟩
    refine hs S ρ σ H1 ow _ Ex _ (r.step e1 z1) p1 (fun ys us H2 p2 e2 z2 h2 => ?_) (b.step e1)
    exact g _ _ H2 p2 (e1.trans e2) z2 (.append (.ofAll (DtAll.mono (hid_mono e2 r.gr.fpo fun _ m => .inl m) ha)) (h2.back e1 r.gr.fpo))
  · exact p1.elim

/-! ### displays -/
def wTup (w : WA) : WE := fun ρ P Ex => w ρ (fun ys => match keeps ys with
  | some ds => ds.length ≤ sizeLine ∧ P (.d (.tuple ds))
  | none => False) Ex
def wLst (w : WA) : WE := fun ρ P Ex => w ρ (fun ys => match keeps ys with
  | some ds => ds.length ≤ sizeLine ∧ P (.own ds)
  | none => False) Ex
theorem sim_tup {es : List Expr} {w : WA} {pos x1} (h : SimA X W Z CL ow0 Hb es w) : SimE X W Z CL ow0 Hb (.Tuple es x1 pos) (wTup w) := by
  intro S ρ σ H ow P Ex Q r w g b
  refine PEat.of (pe_tup PAat.pa) (h S ρ σ H ow _ Ex _ r w (fun ys vs H1 p1 e1 z1 h1 => ?_) b)
  split at p1
  · rename_i ds ed
    have ha := h1.keeps ed
    exact ⟨by rw [ha.length]; exact p1.1, fun p hp => (g.step e1 r.gr.fpo).tup p1.2 (r.gr.step e1 z1) hp ha⟩
  · exact p1.elim
theorem sim_lst {es : List Expr} {w : WA} {pos} (h : SimA X W Z CL ow0 Hb es w) : SimE X W Z CL ow0 Hb (.List es pos) (wLst w) := by
  intro S ρ σ H ow P Ex Q r w g b
  refine PEat.of (pe_lst PAat.pa) (h S ρ σ H ow _ Ex _ r w (fun ys vs H1 p1 e1 z1 h1 => ?_) b)
  split at p1
  · rename_i ds ed
    have ha := h1.keeps ed
    exact ⟨by rw [ha.length]; exact p1.1, fun p hp => (g.step e1 r.gr.fpo).lst p1.2 (r.gr.step e1 z1) hp ha⟩
  · exact p1.elim

/-! ### calls of built-ins -/
abbrev OpN := List Val → (Val → Prop) → Prop
def rC (CL : Calls) (Z : Ext) (K : PySem.W.Frag) (op : OpN) : List V → Hp → VK → Prop := fun vs H Q => ∃ ow H0 ys P, Gr Z ow H ∧ RVs Z CL K ow H0 H vs ys ∧ op ys P ∧ Gd CL Z K ow H P Q
def wCB (op : OpN) (w : WA) : WE := fun ρ P Ex => w ρ (fun ys => op ys P) Ex
theorem sim_callB {id : String} {x : Str} {p pos : Pos} {e : Expr} {es : List Expr} {w : WA} {op : OpN} (hc : CallR X (.builtin id) (rC CL Z X.K op)) (hg : Gl X x) (hm : X.mg x = none) (hv : bootBuiltins x = some (.builtin id)) (ha : SimA X W Z CL ow0 Hb (e :: es) w)
    (hn : x ≠ "__name__" := by decide) (hdb : (x == ("__debug__" : Str)) = false := by decide)
    (he : starEach (e :: es) X.env = (false, eval e X.env) :: starEach es X.env := by rfl) (hpl : (backTo pos (starEach es X.env)).any (·.1) = false := by rfl) : SimE X W Z CL ow0 Hb (.Call (.Name x p) (e :: es) [] pos) (wCB op w) := by
  intro S ρ σ H ow P Ex Q r w g b
  refine PEat.of (pe_callB hc hg hm hv PAat.pa hn hdb he hpl) (ha S ρ σ H ow _ Ex _ r w (fun ys vs H1 p1 e1 z1 h1 => ?_) b)
  exact ⟨ow, H, ys, P, r.gr.step e1 z1, h1, p1, g.step e1 r.gr.fpo⟩
theorem sim_callT {T : String} {x : Str} {p pos : Pos} {e : Expr} {es : List Expr} {w : WA} {op : OpN} (hc : CallR X (.type T) (rC CL Z X.K op)) (hg : Gl X x) (hm : X.mg x = none) (hv : bootBuiltins x = some (.type T)) (ha : SimA X W Z CL ow0 Hb (e :: es) w)
    (hn : x ≠ "__name__" := by decide) (hdb : (x == ("__debug__" : Str)) = false := by decide)
    (he : starEach (e :: es) X.env = (false, eval e X.env) :: starEach es X.env := by rfl) (hpl : (backTo pos (starEach es X.env)).any (·.1) = false := by rfl) : SimE X W Z CL ow0 Hb (.Call (.Name x p) (e :: es) [] pos) (wCB op w) := by
  intro S ρ σ H ow P Ex Q r w g b
  refine PEat.of (pe_callTy hc hg hm hv PAat.pa hn hdb he hpl) (ha S ρ σ H ow _ Ex _ r w (fun ys vs H1 p1 e1 z1 h1 => ?_) b)
  exact ⟨ow, H, ys, P, r.gr.step e1 z1, h1, p1, g.step e1 r.gr.fpo⟩
/-- one argument -/
def op1 (f : D → (Val → Prop) → Prop) : OpN := fun ys P => match ys with
  | [y] => match y.rd with
    | some d => f d P
    | none => False
  | _ => False
theorem one {K : PySem.W.Frag} {ow : List Addr} {H0 H : Hp} {vs : List V} {ys : List Val} {f : D → (Val → Prop) → Prop} {P : Val → Prop} (h : RVs Z CL K ow H0 H vs ys) (w : op1 f ys P) : ∃ v y d, vs = [v] ∧ RV CL Z K ow H0 H v y ∧ y.rd = some d ∧ f d P := by
  cases h with
  | nil => exact w.elim
  | cons h t =>
    cases t with
    | cons _ _ => exact w.elim
    | nil =>
      dsimp only [op1] at w
      split at w
      · rename_i d ed
        exact ⟨_, _, d, rfl, h, ed, w⟩
      · exact w.elim
def bLen : OpN := op1 fun d P => match d with
  | .str z => z.length ≤ sizeLine ∧ P (.d (.int z.length))
  | .list xs => P (.d (.int xs.length))
  | .tuple xs => P (.d (.int xs.length))
  | _ => False
theorem cd_len : CallR X (.builtin "len") (rC CL Z X.K bLen) := by
  intro pins s σ H vs us Q I rv h
  obtain ⟨ow, H0, ys, P, gr, hs, w, g⟩ := h
  obtain ⟨v, y, d, rfl, hy, ed, w⟩ := one hs w
  split at w
  · rename_i z
    rw [hy.str ed] at rv
    exact call_len pins s σ H _ us Q I rv ⟨_, z.length, rfl, ⟨w.1, rfl⟩, g.sc w.2 gr.ext fun _ => .int _⟩
  · rename_i xs
    obtain ⟨p, vs, rfl, hp, ha⟩ := hy.list ed
    exact call_len pins s σ H _ us Q I rv ⟨_, xs.length, rfl, .inl ⟨vs, .inl (.of hp), ha.length.symm⟩, g.sc w gr.ext fun _ => .int _⟩
  · rename_i xs
    obtain ⟨p, vs, rfl, hp, ha⟩ := hy.tuple ed
    exact call_len pins s σ H _ us Q I rv ⟨_, xs.length, rfl, .inr ⟨vs, hid_le.sqt hp, ha.length.symm⟩, g.sc w gr.ext fun _ => .int _⟩
  · exact w.elim
def bAbs : OpN := op1 fun d P => match d with
  | .int i => P (.d (.int (if i < 0 then -i else i)))
  | _ => False
theorem cd_abs : CallR X (.builtin "abs") (rC CL Z X.K bAbs) := by
  intro pins s σ H vs us Q I rv h
  obtain ⟨ow, H0, ys, P, gr, hs, w, g⟩ := h
  obtain ⟨v, y, d, rfl, hy, ed, w⟩ := one hs w
  split at w
  · rename_i z
    rw [hy.int ed] at rv
    exact call_abs pins s σ H _ us Q I rv ⟨_, rfl, g.sc w gr.ext fun _ => .int _⟩
  · exact w.elim
/-- two ints -/
def op2i (f : Int → Int → Int) : OpN := fun ys P => match ys with
  | [x, y] => match x.rd, y.rd with
    | some (.int i), some (.int j) => P (.d (.int (f i j)))
    | _, _ => False
  | _ => False
theorem twoI {K : PySem.W.Frag} {ow : List Addr} {H0 H : Hp} {vs : List V} {ys : List Val} {f : Int → Int → Int} {P : Val → Prop} (h : RVs Z CL K ow H0 H vs ys) (w : op2i f ys P) : ∃ i j, vs = [.int i, .int j] ∧ P (.d (.int (f i j))) := by
  cases h with
  | nil => exact w.elim
  | cons h t =>
    cases t with
    | nil => exact w.elim
    | cons h2 t2 =>
      cases t2 with
      | cons _ _ => exact w.elim
      | nil =>
        dsimp only [op2i] at w
        split at w
        · rename_i i j e1 e2
          exact ⟨i, j, by rw [h.int e1, h2.int e2], w⟩
        · exact w.elim
def bMax2 : OpN := op2i fun i j => if j > i then j else i
def bMin2 : OpN := op2i fun i j => if j < i then j else i
theorem cd_max2 (hc : X.calm = true) : CallR X (.builtin "max") (rC CL Z X.K bMax2) := by
  intro pins s σ H vs us Q I rv h
  obtain ⟨ow, H0, ys, P, gr, hs, w, g⟩ := h
  obtain ⟨i, j, rfl, w⟩ := twoI hs w
  exact call_max2 hc pins s σ H _ us Q I rv ⟨i, j, rfl, g.sc w gr.ext fun _ => .int _⟩
theorem cd_min2 (hc : X.calm = true) : CallR X (.builtin "min") (rC CL Z X.K bMin2) := by
  intro pins s σ H vs us Q I rv h
  obtain ⟨ow, H0, ys, P, gr, hs, w, g⟩ := h
  obtain ⟨i, j, rfl, w⟩ := twoI hs w
  exact call_min2 hc pins s σ H _ us Q I rv ⟨i, j, rfl, g.sc w gr.ext fun _ => .int _⟩
def bInt : OpN := op1 fun d P => match d with
  | .int i => P (.d (.int i))
  | .bool b => P (.d (.int (if b then 1 else 0)))
  | _ => False
theorem cd_int : CallR X (.type "int") (rC CL Z X.K bInt) := by
  intro pins s σ H vs us Q I rv h
  obtain ⟨ow, H0, ys, P, gr, hs, w, g⟩ := h
  obtain ⟨v, y, d, rfl, hy, ed, w⟩ := one hs w
  split at w
  · rw [hy.int ed] at rv
    exact call_int1 pins s σ H _ us Q I rv (.inl ⟨_, rfl, g.sc w gr.ext fun _ => .int _⟩)
  · rw [hy.bool ed] at rv
    exact call_int1 pins s σ H _ us Q I rv (.inr ⟨_, rfl, g.sc w gr.ext fun _ => .int _⟩)
  · exact w.elim
/-- tuple(a list or a tuple), list(..) -/
def bTuple : OpN := op1 fun d P => match d with
  | .list xs => P (.d (.tuple xs))
  | .tuple xs => P (.d (.tuple xs))
  | _ => False
theorem cd_tuple : CallR X (.type "tuple") (rC CL Z X.K bTuple) := by
  intro pins s σ H vs us Q I rv h
  obtain ⟨ow, H0, ys, P, gr, hs, w, g⟩ := h
  obtain ⟨v, y, d, rfl, hy, ed, w⟩ := one hs w
  split at w
  · obtain ⟨p, vs, rfl, hp, ha⟩ := hy.list ed
    exact call_tuple_of pins s σ H _ us Q I rv ⟨p, vs, rfl, .inl ⟨.inl (.of hp), fun l hl => g.tup w gr hl ha⟩⟩
  · obtain ⟨p, vs, rfl, hp, ha⟩ := hy.tuple ed
    exact call_tuple_of pins s σ H _ us Q I rv ⟨p, vs, rfl, .inr ⟨hid_le.sqt hp, g _ _ H w (.refl _ _) gr.ext (.tup hp ha)⟩⟩
  · exact w.elim
def bList : OpN := op1 fun d P => match d with
  | .list xs => P (.own xs)
  | .tuple xs => P (.own xs)
  | _ => False
theorem cd_list : CallR X (.type "list") (rC CL Z X.K bList) := by
  intro pins s σ H vs us Q I rv h
  obtain ⟨ow, H0, ys, P, gr, hs, w, g⟩ := h
  obtain ⟨v, y, d, rfl, hy, ed, w⟩ := one hs w
  split at w
  · obtain ⟨p, vs, rfl, hp, ha⟩ := hy.list ed
    exact call_list_of pins s σ H _ us Q I rv ⟨p, vs, rfl, .inl (.inl (.of hp)), fun l hl => g.lst w gr hl ha⟩
  · obtain ⟨p, vs, rfl, hp, ha⟩ := hy.tuple ed
    exact call_list_of pins s σ H _ us Q I rv ⟨p, vs, rfl, .inr (hid_le.sqt hp), fun l hl => g.lst w gr hl ha⟩
  · exact w.elim
/-- ints in a row -/
def intsOf : List D → Option (List Int)
  | [] => some []
  | .int i :: r => (intsOf r).map (i :: ·)
  | _ :: _ => none
theorem intsOf_eq : ∀ {xs : List D} {ns : List Int}, intsOf xs = some ns → xs = ns.map .int
  | [], _, e => by cases e; rfl
  | .int i :: r, ns, e => by
    unfold intsOf at e
    cases q : intsOf r with
    | none => rw [q] at e; cases e
    | some ms =>
      rw [q] at e
      cases e
      rw [intsOf_eq q]
      rfl
  | .none :: _, _, e => by cases e
  | .bool _ :: _, _, e => by cases e
  | .str _ :: _, _, e => by cases e
  | .list _ :: _, _, e => by cases e
  | .tuple _ :: _, _, e => by cases e
  | .dict _ :: _, _, e => by cases e
theorem intsOf_map : ∀ ns : List Int, intsOf (ns.map .int) = some ns
  | [] => rfl
  | n :: ns => by
    show (intsOf (ns.map .int)).map (n :: ·) = _
    rw [intsOf_map ns]
    rfl
def boolsOf : List D → Option (List Bool)
  | [] => some []
  | .bool i :: r => (boolsOf r).map (i :: ·)
  | _ :: _ => none
theorem boolsOf_eq : ∀ {xs : List D} {ns : List Bool}, boolsOf xs = some ns → xs = ns.map .bool
  | [], _, e => by cases e; rfl
  | .bool i :: r, ns, e => by
    unfold boolsOf at e
    cases q : boolsOf r with
    | none => rw [q] at e; cases e
    | some ms =>
      rw [q] at e
      cases e
      rw [boolsOf_eq q]
      rfl
  | .none :: _, _, e => by cases e
  | .int _ :: _, _, e => by cases e
  | .str _ :: _, _, e => by cases e
  | .list _ :: _, _, e => by cases e
  | .tuple _ :: _, _, e => by cases e
  | .dict _ :: _, _, e => by cases e
theorem boolsOf_map : ∀ ns : List Bool, boolsOf (ns.map .bool) = some ns
  | [] => rfl
  | n :: ns => by
    show (boolsOf (ns.map .bool)).map (n :: ·) = _
    rw [boolsOf_map ns]
    rfl
def bAll : OpN := op1 fun d P => match d with
  | .list xs => match boolsOf xs with
    | some bs => P (.d (.bool (bs.all id)))
    | none => False
  | _ => False
theorem cd_all (hc : X.calm = true) : CallR X (.builtin "all") (rC CL Z X.K bAll) := by
  intro pins s σ H vs us Q I rv h
  obtain ⟨ow, H0, ys, P, gr, hs, w, g⟩ := h
  obtain ⟨v, y, d, rfl, hy, ed, w⟩ := one hs w
  split at w
  · split at w
    · rename_i xs bs e
      obtain ⟨p, vs, rfl, hp, ha⟩ := hy.list ed
      rw [boolsOf_eq e] at ha
      rw [ha.bools] at hp
      exact cr_all hc pins s σ H _ us Q I rv ⟨p, bs, rfl, .inl (.of hp), g.sc w gr.ext fun _ => .bl _⟩
    · exact w.elim
  · exact w.elim
def bAny : OpN := op1 fun d P => match d with
  | .list xs => match boolsOf xs with
    | some bs => P (.d (.bool (bs.any id)))
    | none => False
  | _ => False
theorem cd_any (hc : X.calm = true) : CallR X (.builtin "any") (rC CL Z X.K bAny) := by
  intro pins s σ H vs us Q I rv h
  obtain ⟨ow, H0, ys, P, gr, hs, w, g⟩ := h
  obtain ⟨v, y, d, rfl, hy, ed, w⟩ := one hs w
  split at w
  · split at w
    · rename_i xs bs e
      obtain ⟨p, vs, rfl, hp, ha⟩ := hy.list ed
      rw [boolsOf_eq e] at ha
      rw [ha.bools] at hp
      exact cr_any hc pins s σ H _ us Q I rv ⟨p, bs, rfl, .inl (.of hp), g.sc w gr.ext fun _ => .bl _⟩
    · exact w.elim
  · exact w.elim
/-- sum of ints -/
def bSum : OpN := op1 fun d P => match d with
  | .list xs => match intsOf xs with
    | some ns => P (.d (.int ns.sum))
    | none => False
  | .tuple xs => match intsOf xs with
    | some ns => P (.d (.int ns.sum))
    | none => False
  | _ => False
theorem sum_tup {pins : List (Addr × Obj)} {σ : L2.St} {s : Shared} {H : Hp} {p : Addr} {ns : List Int} {Q : VK} (hc : X.calm = true) (I : Inv X pins σ H s) (h : SqT X.K H p (ns.map V.int)) (q : Q (.int ns.sum) H) : wpAny (model X.prog X.w) X.A (call (.builtin "sum") [.ref p]) (EP X pins σ Q) X.xe s := by
  obtain ⟨its, rv, hl, _⟩ := I.tuple h
  have hi := rv.ints
  obtain ⟨xs, hx⟩ := hi.allInts.items
  have hn : numsOf its.toArray.toList = ns := by rw [show its.toArray.toList = its from rfl, hi.numsOf]
  have hl : s.heap.IsTuple p its.toArray := hl
  rw [hx] at hl hn
  rw [nums_intItems] at hn
  refine PySem.W.ktm_sumG (I.ok.hd hc) hl fun h' tk t' hk => ⟨.int _, H, I.kept hk, ⟨t', ?_⟩, q⟩
  rw [preSum_eq, List.take_of_length_le (by simp), hn]
theorem cd_sum (hc : X.calm = true) : CallR X (.builtin "sum") (rC CL Z X.K bSum) := by
  intro pins s σ H vs us Q I rv h
  obtain ⟨ow, H0, ys, P, gr, hs, w, g⟩ := h
  obtain ⟨v, y, d, rfl, hy, ed, w⟩ := one hs w
  split at w
  · split at w
    · rename_i xs bs e
      obtain ⟨p, vs, rfl, hp, ha⟩ := hy.list ed
      rw [intsOf_eq e] at ha
      rw [ha.ints] at hp
      exact cr_sum hc pins s σ H _ us Q I rv ⟨p, bs, rfl, .inl (.of hp), g.sc w gr.ext fun _ => .int _⟩
    · exact w.elim
  · split at w
    · rename_i xs bs e
      obtain ⟨p, vs, rfl, hp, ha⟩ := hy.tuple ed
      rw [intsOf_eq e] at ha
      rw [ha.ints] at hp
      rw [Vals.ref1 rv]
      exact sum_tup hc I (hid_le.sqt hp) (g.sc w gr.ext fun _ => .int _)
    · exact w.elim
  · exact w.elim
/-! ### isinstance -/
def wIsi (f : D → Bool) (w : WE) : WE := fun ρ P Ex => w ρ (fun y => match y.rd with
  | some d => P (.d (.bool (f d)))
  | none => False) Ex
end
end Pd

/-! Pd5: isinstance, repr, sorted, subscripts, slices over data. -/
namespace Pd
open PySem PySem.Spec PyProof.Rows L2
section
variable {X : Cx} {W : WX} {Z : Ext} {CL : Calls} {ow0 : List Addr} {Hb : Hp}
/-! ### isinstance of data by a built-in class -/
def rIs (CL : Calls) (Z : Ext) (K : PySem.W.Frag) (T : String) (f : D → Bool) : List V → Hp → VK → Prop := fun xs H Q => ∃ v d, xs = [v, .ty T] ∧ Dt K H v d ∧ Q (.bl (f d)) H
def isIntD : D → Bool
  | .int _ => true
  | .bool _ => true
  | _ => false
def isBoolD : D → Bool
  | .bool _ => true
  | _ => false
def isStrD : D → Bool
  | .str _ => true
  | _ => false
def isTupleD : D → Bool
  | .tuple _ => true
  | _ => false
def isListD : D → Bool
  | .list _ => true
  | _ => false
theorem ci_int : CallR X (.builtin "isinstance") (rIs CL Z X.K "int" isIntD) := by
  intro pins s σ H xs us Q I r h
  obtain ⟨v, d, rfl, hd, q⟩ := h
  cases r with
  | cons r1 r2 =>
    cases r2 with
    | cons r2 r3 =>
      cases r3
      cases r2
      obtain ⟨as, rd⟩ := Dp.reads I d v _ hd.dp r1
      exact PySem.W.isinstance_int_data rd fun tk _ => ⟨.bl (isIntD d), H, I.tok tk, by cases d <;> rfl, q⟩
theorem ci_bool : CallR X (.builtin "isinstance") (rIs CL Z X.K "bool" isBoolD) := by
  intro pins s σ H xs us Q I r h
  obtain ⟨v, d, rfl, hd, q⟩ := h
  cases r with
  | cons r1 r2 =>
    cases r2 with
    | cons r2 r3 =>
      cases r3
      cases r2
      obtain ⟨as, rd⟩ := Dp.reads I d v _ hd.dp r1
      exact PySem.W.isinstance_bool_data rd fun tk _ => ⟨.bl (isBoolD d), H, I.tok tk, by cases d <;> rfl, q⟩
theorem ci_str : CallR X (.builtin "isinstance") (rIs CL Z X.K "str" isStrD) := by
  intro pins s σ H xs us Q I r h
  obtain ⟨v, d, rfl, hd, q⟩ := h
  cases r with
  | cons r1 r2 =>
    cases r2 with
    | cons r2 r3 =>
      cases r3
      cases r2
      obtain ⟨as, rd⟩ := Dp.reads I d v _ hd.dp r1
      exact PySem.W.isinstance_str_data rd fun tk _ => ⟨.bl (isStrD d), H, I.tok tk, by cases d <;> rfl, q⟩
theorem ci_tuple : CallR X (.builtin "isinstance") (rIs CL Z X.K "tuple" isTupleD) := by
  intro pins s σ H xs us Q I r h
  obtain ⟨v, d, rfl, hd, q⟩ := h
  cases r with
  | cons r1 r2 =>
    cases r2 with
    | cons r2 r3 =>
      cases r3
      cases r2
      obtain ⟨as, rd⟩ := Dp.reads I d v _ hd.dp r1
      exact PySem.W.isinstance_tuple_data rd fun tk _ => ⟨.bl (isTupleD d), H, I.tok tk, by cases d <;> rfl, q⟩
theorem ci_list : CallR X (.builtin "isinstance") (rIs CL Z X.K "list" isListD) := by
  intro pins s σ H xs us Q I r h
  obtain ⟨v, d, rfl, hd, q⟩ := h
  cases r with
  | cons r1 r2 =>
    cases r2 with
    | cons r2 r3 =>
      cases r3
      cases r2
      obtain ⟨as, rd⟩ := Dp.reads I d v _ hd.dp r1
      exact PySem.W.isinstance_list_data rd fun tk _ => ⟨.bl (isListD d), H, I.tok tk, by cases d <;> rfl, q⟩
theorem sim_isi {T : String} {f : D → Bool} {t : Str} {p pt pos : Pos} {e : Expr} {we : WE} (hc : CallR X (.builtin "isinstance") (rIs CL Z X.K T f)) (hg : Gl X "isinstance") (hm : X.mg "isinstance" = none) (ht : Gl X t) (hmt : X.mg t = none) (hv : bootBuiltins t = some (.type T))
    (h : SimE X W Z CL ow0 Hb e we) (hn : t ≠ "__name__" := by decide) (hdb : (t == ("__debug__" : Str)) = false := by decide)
    (hst : starEach [e, .Name t pt] X.env = (false, eval e X.env) :: starEach [.Name t pt] X.env := by rfl) (hpl : (backTo pos (starEach [.Name t pt] X.env)).any (·.1) = false := by rfl)
    (hbi : bootBuiltins "isinstance" = some (.builtin "isinstance") := by decide +kernel) : SimE X W Z CL ow0 Hb (.Call (.Name "isinstance" p) [e, .Name t pt] [] pos) (wIsi f we) := by
  intro S ρ σ H ow P Ex Q r w g b
  refine PEat.of (pe_callB hc hg hm hbi (pa_cons PEat.pe (pa_cons (pe_bltn (v := .ty T) ht hmt hv rfl hn hdb) pa_nil) hst) (by decide) (by decide) hst hpl) ?_
  refine h S ρ σ H ow _ Ex _ r w (fun y v H1 p1 e1 z1 h1 => ?_) b
  split at p1
  · rename_i d ed
    exact ⟨v, d, rfl, h1.rd ed, (g.step e1 r.gr.fpo).sc p1 z1 fun _ => .bl _⟩
  · exact p1.elim

/-! ### repr -/
def bRepr : OpN := op1 fun d P => d.showable = true ∧ d.shown.length ≤ sizeLine ∧ d.depth ≤ 100 ∧ P (.d (.str d.shown))
mutual
theorem noDict : ∀ {d : D}, d.plain = true → d.hasDict = false
  | .none, _ => by simp only [PyData.hasDict]
  | .bool _, _ => by simp only [PyData.hasDict]
  | .int _, _ => by simp only [PyData.hasDict]
  | .str _, _ => by simp only [PyData.hasDict]
  | .list xs, h => by simp only [PyData.hasDict]; exact noDicts (by simpa [PyData.plain] using h)
  | .tuple xs, h => by simp only [PyData.hasDict]; exact noDicts (by simpa [PyData.plain] using h)
  | .dict _, h => by simp [PyData.plain] at h
theorem noDicts : ∀ {ds : List D}, PyData.plainAll ds = true → PyData.hasDictAll ds = false
  | [], _ => by simp only [PyData.hasDictAll]
  | x :: xs, h => by
    simp only [PyData.plainAll, Bool.and_eq_true] at h
    simp only [PyData.hasDictAll, noDict h.1, noDicts h.2, Bool.or_self]
end
theorem cd_repr (hg : X.A.guards = some []) (hu : X.A.units + 200 < cLine) : CallR X (.builtin "repr") (rC CL Z X.K bRepr) := by
  intro pins s σ H vs us Q I rv h
  obtain ⟨ow, H0, ys, P, gr, hs, w, g⟩ := h
  obtain ⟨v, y, d, rfl, hy, ed, w1, w2, w3, w⟩ := one hs w
  cases rv with
  | cons r1 r2 =>
    cases r2
    rename_i u
    obtain ⟨as, rd⟩ := hy.reads I ed r1
    have fin : ∀ h' tk t', (∀ b o, s.heap.get? b = some o → h'.get? b = some o) → EP X pins σ Q (.str d.shown t') { s with heap := h', toks := tk } := fun h' tk t' hk => ⟨.str _, H, I.kept hk, ⟨t', rfl⟩, g.sc w gr.ext fun _ => .str _⟩
    have hd := noDict (hy.plain ed)
    cases d with
    | none =>
      cases rd
      exact PySem.P.repr_of_none (by simpa [PyData.shown] using fin s.heap (s.toks + 1) s.toks fun _ _ e => e)
    | bool b =>
      cases rd
      exact PySem.P.repr_of_bool (by simpa [PyData.shown] using fin s.heap (s.toks + 1) s.toks fun _ _ e => e)
    | int i =>
      cases rd
      exact PySem.P.repr_of_int (by simpa [PyData.showable] using w1) (by simpa [PyData.shown] using fin s.heap (s.toks + 1) s.toks fun _ _ e => e)
    | str z =>
      cases rd
      exact PySem.P.repr_of_str (by simpa [PyData.shown] using fin s.heap (s.toks + 1) s.toks fun _ _ e => e) (by simpa [PyData.shown] using w2)
    | list xs =>
      cases rd with
      | list h1 h2 h3 h4 => exact repr_of_reads' (.list h1 h2 h3 h4) w1 (fun z => by rw [hd] at z; cases z) hg (by omega) (fun _ _ e => e) (fun h' u tk hk => fin h' tk u hk) w2
    | tuple xs =>
      cases rd with
      | tuple h1 h2 h3 h4 => exact repr_of_reads' (.tuple h1 h2 h3 h4) w1 (fun z => by rw [hd] at z; cases z) hg (by omega) (fun _ _ e => e) (fun h' u tk hk => fin h' tk u hk) w2
    | dict _ => exact absurd (hy.plain ed) (by simp [PyData.plain])
/-! ### subscripts -/
def opIx : Op2 := fun a b P => match a.rd, b.rd with
  | some (.list xs), some (.int i) => match atI xs i with
    | some d => P (.d d)
    | none => False
  | some (.tuple xs), some (.int i) => match atI xs i with
    | some d => P (.d d)
    | none => False
  | some (.str z), some (.int i) => z.length ≤ sizeLine ∧ match atI z.cps.toList i with
    | some c => P (.d (.str ⟨#[c]⟩))
    | none => False
  | _, _ => False
theorem DtAll.atI {K : PySem.W.Frag} {H : Hp} {vs : List V} {ds : List D} {i : Int} {d : D} (h : DtAll K H vs ds) (e : L2.atI ds i = some d) : ∃ v, L2.atI vs i = some v ∧ Dt K H v d := by
  unfold L2.atI at e ⊢
  rw [h.length]
  cases q : ixN ds.length i with
  | none => rw [q] at e; cases e
  | some j =>
    rw [q] at e
    exact h.get e
theorem ir_ix : IxR X (rD CL Z X.K opIx) := by
  intro value slice pins s σ H x y v u Q I rx ry h hs
  obtain ⟨ow, H0, a, b, P, gr, ha, hb, w, g⟩ := h
  unfold opIx at w
  split at w
  · rename_i xs i e1 e2
    split at w
    · rename_i d ed
      obtain ⟨p, vs, rfl, hp, hA⟩ := ha.list e1
      rw [hb.int e2] at ry
      obtain ⟨z, h1, h2⟩ := hA.atI ed
      exact ix_list value slice pins s σ H _ _ v u Q I rx ry ⟨p, vs, i, z, rfl, rfl, .inl (.of hp), h1, g _ _ H w (.refl _ _) gr.ext h2⟩ hs
    · exact w.elim
  · rename_i xs i e1 e2
    split at w
    · rename_i d ed
      obtain ⟨p, vs, rfl, hp, hA⟩ := ha.tuple e1
      rw [hb.int e2] at ry
      obtain ⟨z, h1, h2⟩ := hA.atI ed
      exact ix_tup value slice pins s σ H _ _ v u Q I rx ry ⟨p, vs, i, z, rfl, rfl, hid_le.sqt hp, h1, g _ _ H w (.refl _ _) gr.ext h2⟩ hs
    · exact w.elim
  · rename_i z i e1 e2
    obtain ⟨wl, w⟩ := w
    split at w
    · rename_i c ec
      rw [ha.str e1] at rx
      rw [hb.int e2] at ry
      exact ix_str value slice pins s σ H _ _ v u Q I rx ry ⟨z, i, c, rfl, rfl, wl, ec, g.sc w gr.ext fun _ => .str _⟩ hs
    · exact w.elim
  · exact w.elim
theorem sim_ix {ea eb : Expr} {wa wb : WE} {pos : Pos} (ha : SimE X W Z CL ow0 Hb ea wa) (hb : SimE X W Z CL ow0 Hb eb wb) (hs : PlainIx eb := by intro _ _; rfl) : SimE X W Z CL ow0 Hb (.Subscript ea eb pos) (wOp opIx wa wb) := by
  intro S ρ σ H ow P Ex Q r w g b
  refine PEat.of (pe_ix (ir_ix (Z := Z) (CL := CL)) PEat.pe PEat.pe hs) ?_
  exact two ha hb r b w fun x y v u H' q e z h1 h2 => ⟨ow, H, x, y, P, r.gr.step e z, h1, h2, q, g.step e r.gr.fpo⟩

/-! ### slices -/
abbrev WO := Ev → (Option Int → Prop) → (Xn → Prop) → Prop
structure POat (X : Cx) (e : Option Expr) (σ : L2.St) (H : Hp) (Q : (Option Int → Hp → Prop)) : Prop where
  go : ∀ pins s, Inv X pins σ H s → wpAny (model X.prog X.w) X.A (evalPart e X.env) (fun u s' => ∃ o H', Inv X pins σ H' s' ∧ IsPart u o ∧ Q o H') X.xe s
theorem POat.po {e : Option Expr} : PO X e (POat X e) := ⟨fun pins s σ H Q I h => h.go pins s I⟩
theorem POat.of {e : Option Expr} {t : TO} (h : PO X e t) {σ : L2.St} {H : Hp} {Q : Option Int → Hp → Prop} (q : t σ H Q) : POat X e σ H Q := ⟨fun pins s I => h.run pins s σ H Q I q⟩
def SimO (X : Cx) (W : WX) (Z : Ext) (CL : Calls) (ow0 : List Addr) (Hb : Hp) (e : Option Expr) (w : WO) : Prop := ∀ (S : Hp) (ρ : Ev) (σ : L2.St) (H : Hp) (ow : List Addr) (P : Option Int → Prop) (Ex : Xn → Prop) (Q : Option Int → Hp → Prop),
  Rel CL Z X.K ow0 Hb S ρ σ H ow → w ρ P Ex → (∀ o H', P o → SameBut (fp Z) H H' → RZ Z H' → Q o H') → Bd Z X.K ow X.mg W σ H Ex → POat X e σ H Q
def wNo : WO := fun _ P _ => P none
def wSo (w : WE) : WO := fun ρ P Ex => w ρ (fun y => match y.rd with
  | some (.int i) => P (some i)
  | _ => False) Ex
theorem sim_no : SimO X W Z CL ow0 Hb none wNo := fun S ρ σ H ow P Ex Q r w g b => POat.of po_none (g none H w (.refl _ _) r.gr.ext)
theorem sim_so {e : Expr} {we : WE} (h : SimE X W Z CL ow0 Hb e we) : SimO X W Z CL ow0 Hb (some e) (wSo we) := by
  intro S ρ σ H ow P Ex Q r w g b
  refine POat.of (po_some PEat.pe) (h S ρ σ H ow _ Ex _ r w (fun y v H1 p1 e1 z1 h1 => ?_) b)
  split at p1
  · rename_i i ei
    exact ⟨i, h1.int ei, g _ _ p1 e1 z1⟩
  · exact p1.elim
def cutG {α : Type} (xs : List α) (lo hi : Option Int) : List α := (xs.drop (HT.sIx xs.length 0 lo)).take (HT.sIx xs.length xs.length hi - HT.sIx xs.length 0 lo)
theorem DtAll.cut {K : PySem.W.Frag} {H : Hp} {vs : List V} {ds : List D} (h : DtAll K H vs ds) (lo hi : Option Int) : DtAll K H (cutV vs lo hi) (cutG ds lo hi) := by
  unfold cutV cutG
  rw [h.length]
  exact (h.drop _).take _
def opSl (a : Val) (lo hi : Option Int) (P : Val → Prop) : Prop := match a.rd with
  | some (.list xs) => P (.own (cutG xs lo hi))
  | some (.tuple xs) => P (.d (.tuple (cutG xs lo hi)))
  | some (.str z) => z.length ≤ sizeLine ∧ P (.d (.str (cutS z lo hi)))
  | _ => False
def wSl (w : WE) (wl wh : WO) : WE := fun ρ P Ex => w ρ (fun x => wl ρ (fun lo => wh ρ (fun hi => opSl x lo hi P) Ex) Ex) Ex
theorem cut_whole {α : Type} {xs : List α} {lo hi : Option Int} (h : HT.sIx xs.length 0 lo = 0 ∧ HT.sIx xs.length xs.length hi = xs.length) : cutG xs lo hi = xs := by
  unfold cutG
  rw [h.1, h.2]
  simp
theorem sr_sl : SlR X (fun v lo hi H Q => ∃ ow H0 a P, Gr Z ow H ∧ RV CL Z X.K ow H0 H v a ∧ opSl a lo hi P ∧ Gd CL Z X.K ow H P Q) := by
  intro pins s σ H x v vl vu lo hi sl Q I rx hs pl pu h
  obtain ⟨ow, H0, a, P, gr, ha, w, g⟩ := h
  unfold opSl at w
  split at w
  · rename_i xs e
    obtain ⟨p, vs, rfl, hp, hA⟩ := ha.list e
    exact sl_list pins s σ H _ v vl vu lo hi sl Q I rx hs pl pu ⟨p, vs, rfl, .inl (.of hp), fun q hq => g.lst w gr hq (hA.cut lo hi)⟩
  · rename_i xs e
    obtain ⟨p, vs, rfl, hp, hA⟩ := ha.tuple e
    refine sl_tupA pins s σ H _ v vl vu lo hi sl Q I rx hs pl pu ⟨p, vs, rfl, hid_le.sqt hp, fun z => ?_, fun _ q hq => g.tup w gr hq (hA.cut lo hi)⟩
    rw [hA.length] at z
    rw [cut_whole z] at w
    exact g _ _ H w (.refl _ _) gr.ext (.tup hp hA)
  · rename_i z e
    rw [ha.str e] at rx
    exact sl_str pins s σ H _ v vl vu lo hi sl Q I rx hs pl pu ⟨z, rfl, w.1, g.sc w.2 gr.ext fun _ => .str _⟩
  · exact w.elim
theorem sim_sl {e : Expr} {lo hi : Option Expr} {we : WE} {wl wh : WO} {p2 pos : Pos} (h : SimE X W Z CL ow0 Hb e we) (hl : SimO X W Z CL ow0 Hb lo wl) (hh : SimO X W Z CL ow0 Hb hi wh) : SimE X W Z CL ow0 Hb (.Subscript e (.Slice lo hi none p2) pos) (wSl we wl wh) := by
  intro S ρ σ H ow P Ex Q r w g b
  refine PEat.of (pe_slice (sr_sl (Z := Z) (CL := CL)) PEat.pe POat.po POat.po) ?_
  refine h S ρ σ H ow _ Ex _ r w (fun y v H1 p1 e1 z1 h1 => ?_) b
  refine hl S ρ σ H1 ow _ Ex _ (r.step e1 z1) p1 (fun lo H2 p2 e2 z2 => ?_) (b.step e1)
  refine hh S ρ σ H2 ow _ Ex _ (r.step (e1.trans e2) z2) p2 (fun hi H3 p3 e3 z3 => ?_) (b.step (e1.trans e2))
  exact ⟨ow, H, y, P, r.gr.step ((e1.trans e2).trans e3) z3, h1.stay (e2.trans e3) r.gr.fpo, p3, g.step ((e1.trans e2).trans e3) r.gr.fpo⟩
end
end Pd

/-! Pd6: statements over data: stores, branches, ends, lists that grow, raise. -/
namespace Pd
open PySem PySem.Spec PyProof.Rows L2

structure PSat (X : Cx) (st : Stmt) (D : L2.Ends) (σ : L2.St) (H : Hp) : Prop where
  go : ∀ pins s, Inv X pins σ H s → wpAny (model X.prog X.w) X.A (exec st X.env) (SP X pins D) X.xe s
theorem PSat.ps {X : Cx} {st : Stmt} : PS X st (PSat X st) := ⟨fun pins s σ H D I h => h.go pins s I⟩
theorem PSat.of {X : Cx} {st : Stmt} {t : TS} (h : PS X st t) {D : L2.Ends} {σ : L2.St} {H : Hp} (q : t D σ H) : PSat X st D σ H := ⟨fun pins s I => h.run pins s σ H D I q⟩
structure PSsat (X : Cx) (st : List Stmt) (D : L2.Ends) (σ : L2.St) (H : Hp) : Prop where
  go : ∀ pins s, Inv X pins σ H s → wpAny (model X.prog X.w) X.A (execs st X.env) (SP X pins D) X.xe s
theorem PSsat.ps {X : Cx} {st : List Stmt} : PSs X st (PSsat X st) := ⟨fun pins s σ H D I h => h.go pins s I⟩
theorem PSsat.of {X : Cx} {st : List Stmt} {t : TS} (h : PSs X st t) {D : L2.Ends} {σ : L2.St} {H : Hp} (q : t D σ H) : PSsat X st D σ H := ⟨fun pins s I => h.run pins s σ H D I q⟩

/-- what is wanted over data is what is wanted over the heap -/
structure DOK (X : Cx) (W : WX) (Z : Ext) (CL : Calls) (ow0 : List Addr) (Hb : Hp) (S : Hp) (E : En) (D : L2.Ends) : Prop where
  nx : ∀ ρ σ H ow, E.nx ρ → Rel CL Z X.K ow0 Hb S ρ σ H ow → D.nx σ H
  bk : ∀ ρ σ H ow, E.bk ρ → Rel CL Z X.K ow0 Hb S ρ σ H ow → D.bk σ H
  ct : ∀ ρ σ H ow, E.ct ρ → Rel CL Z X.K ow0 Hb S ρ σ H ow → D.ct σ H
  rt : ∀ y v H, E.rt y → SameBut (fp Z) Hb H → RZ Z H → RV CL Z X.K ow0 Hb H v y → D.rt v H
  ex : ∀ x ρ σ H ow cls d, E.ex x ρ → Rel CL Z X.K ow0 Hb S ρ σ H ow → ExR X.K ow X.mg x cls d H → W cls d σ H
section
variable (X : Cx) (W : WX) (Z : Ext) (CL : Calls) (ow0 : List Addr) (Hb : Hp)
def SimS (st : Stmt) (w : WS) : Prop := ∀ (S : Hp) (ρ : Ev) (σ : L2.St) (H : Hp) (ow : List Addr) (E : En) (D : L2.Ends),
  Rel CL Z X.K ow0 Hb S ρ σ H ow → w E ρ → DOK X W Z CL ow0 Hb S E D → PSat X st D σ H
def SimSs (st : List Stmt) (w : WS) : Prop := ∀ (S : Hp) (ρ : Ev) (σ : L2.St) (H : Hp) (ow : List Addr) (E : En) (D : L2.Ends),
  Rel CL Z X.K ow0 Hb S ρ σ H ow → w E ρ → DOK X W Z CL ow0 Hb S E D → PSsat X st D σ H
end
section
variable {X : Cx} {W : WX} {Z : Ext} {CL : Calls} {ow0 : List Addr} {Hb : Hp}
theorem DOK.bd {S : Hp} {E : En} {D : L2.Ends} (o : DOK X W Z CL ow0 Hb S E D) {ρ : Ev} {σ : L2.St} {H : Hp} {ow : List Addr} (r : Rel CL Z X.K ow0 Hb S ρ σ H ow) : Bd Z X.K ow X.mg W σ H (fun x => E.ex x ρ) :=
  fun x cls d H' p er e z => o.ex x ρ σ H' ow cls d p (r.step e z) er
theorem DOK.with {S : Hp} {E : En} {D : L2.Ends} (o : DOK X W Z CL ow0 Hb S E D) {n : Ev → Prop} {m : L2.St → Hp → Prop} (h : ∀ ρ σ H ow, n ρ → Rel CL Z X.K ow0 Hb S ρ σ H ow → m σ H) : DOK X W Z CL ow0 Hb S { E with nx := n } { D with nx := m } := ⟨h, o.bk, o.ct, o.rt, o.ex⟩
/-! ### blocks -/
def wSkip : WS := fun E ρ => E.nx ρ
def wSeq (a b : WS) : WS := fun E ρ => a { E with nx := fun ρ' => b E ρ' } ρ
theorem sim_bnil : SimSs X W Z CL ow0 Hb [] wSkip := fun S ρ σ H ow E D r w o => PSsat.of pss_nil (o.nx ρ σ H ow w r)
theorem sim_bcons {st : Stmt} {rest : List Stmt} {a b : WS} (h1 : SimS X W Z CL ow0 Hb st a) (h2 : SimSs X W Z CL ow0 Hb rest b) : SimSs X W Z CL ow0 Hb (st :: rest) (wSeq a b) := by
  intro S ρ σ H ow E D r w o
  refine PSsat.of (pss_cons PSat.ps PSsat.ps) ?_
  exact h1 S ρ σ H ow _ _ r w (o.with fun ρ' σ' H' ow' q r' => h2 S ρ' σ' H' ow' E D r' q o)
theorem sim_bone {st : Stmt} {a : WS} (h1 : SimS X W Z CL ow0 Hb st a) : SimSs X W Z CL ow0 Hb [st] a :=
  fun S ρ σ H ow E D r w o => PSsat.of (pss_one PSat.ps) (h1 S ρ σ H ow E D r w o)
theorem sim_pass {pos : Pos} : SimS X W Z CL ow0 Hb (.Pass pos) wSkip := fun S ρ σ H ow E D r w o => PSat.of ps_pass (o.nx ρ σ H ow w r)
def wBrk : WS := fun E ρ => E.bk ρ
def wCnt : WS := fun E ρ => E.ct ρ
theorem sim_break {pos : Pos} : SimS X W Z CL ow0 Hb (.Break pos) wBrk := fun S ρ σ H ow E D r w o => PSat.of ps_break (o.bk ρ σ H ow w r)
theorem sim_continue {pos : Pos} : SimS X W Z CL ow0 Hb (.Continue pos) wCnt := fun S ρ σ H ow E D r w o => PSat.of ps_continue (o.ct ρ σ H ow w r)
/-! ### return -/
theorem hid_less {a b : List Addr} {H : Hp} (h : ∀ x ∈ b, x ∈ a) : Le (hid a H) (hid b H) := fun x o q => by
  obtain ⟨m, q, t⟩ := hid_some q
  exact hid_of (fun z => m (h x z)) q t
def wRet (w : WE) : WS := fun E ρ => w ρ (fun y => match y.kp with
  | some d => E.rt (.d d)
  | none => False) (fun x => E.ex x ρ)
/-- a new list, handed back as such -/
def wRetO (w : WE) : WS := fun E ρ => w ρ (fun y => match y with
  | .own xs => E.rt (.own xs)
  | _ => False) (fun x => E.ex x ρ)
/-- the list of a slot, handed back -/
def wRetL (i : Nat) : WS := fun E ρ => match ρ[i]? with
  | some (some (.own xs)) => E.rt (.own xs)
  | _ => False
theorem sim_ret {e : Expr} {we : WE} {pos : Pos} (h : SimE X W Z CL ow0 Hb e we) : SimS X W Z CL ow0 Hb (.Return (some e) pos) (wRet we) := by
  intro S ρ σ H ow E D r w o
  refine PSat.of (ps_ret PEat.pe) (h S ρ σ H ow _ _ _ r w (fun y v H' p e z q => ?_) (o.bd r))
  split at p
  · rename_i d ed
    refine o.rt _ v H' p (r.sb.trans e) z ?_
    exact Dt.mono (hid_less r.sub) (q.kp ed)
  · exact p.elim
theorem sim_retO {e : Expr} {we : WE} {pos : Pos} (h : SimE X W Z CL ow0 Hb e we) : SimS X W Z CL ow0 Hb (.Return (some e) pos) (wRetO we) := by
  intro S ρ σ H ow E D r w o
  refine PSat.of (ps_ret PEat.pe) (h S ρ σ H ow _ _ _ r w (fun y v H' p e z q => ?_) (o.bd r))
  split at p
  · rename_i xs
    refine o.rt _ v H' p (r.sb.trans e) z ?_
    obtain ⟨p, vs, rfl, h0, n, hp, ha⟩ := q
    refine ⟨p, vs, rfl, r.sb.free (fun z => n (r.gr.fpo p z)) h0, fun m => n (r.sub p m), hp, DtAll.mono (hid_less fun a z => ?_) ha⟩
    rcases List.mem_cons.mp z with rfl | z
    · exact List.mem_cons_self
    · exact List.mem_cons_of_mem _ (r.sub a z)
  · exact p.elim
theorem sim_retL (i : Nat) {x : Str} {pos pos' : Pos} (g0 : Gr Z ow0 Hb) (hN : X.N[i]? = some x := by rfl) (hv : Vis X.env.scope x := by first | exact Or.inl rfl | exact Or.inr (Or.inl rfl) | exact Or.inr (Or.inr rfl)) (hd : (x == ("__debug__" : Str)) = false := by decide)
    (hcd : (x == ("__classdict__" : Str)) = false := by decide) : SimS X W Z CL ow0 Hb (.Return (some (.Name x pos)) pos') (wRetL i) := by
  intro S ρ σ H ow E D r w o
  unfold wRetL at w
  split at w
  · rename_i xs hy
    obtain ⟨v, h1, p, vs, rfl, h0, n, nz, hp, ha⟩ := r.val i _ hy
    refine PSat.of (ps_ret (pe_var hN hv hd hcd)) ⟨_, h1, o.rt _ _ H w r.sb r.gr.ext ?_⟩
    refine ⟨p, vs, rfl, h0, g0.no h0, hp, DtAll.mono (hid_less fun a z => ?_) ha⟩
    rcases List.mem_cons.mp z with rfl | z
    · exact n
    · exact r.sub a z
  · exact w.elim
def wRetN : WS := fun E _ => E.rt (.d .none)
theorem sim_retN {pos : Pos} : SimS X W Z CL ow0 Hb (.Return none pos) wRetN := fun S ρ σ H ow E D r w o => PSat.of ps_retN (o.rt _ _ H w r.sb r.gr.ext .non)
/-! ### if, expressions -/
def wIfS (wt : WT) (a b : WS) : WS := fun E ρ => wt ρ (fun c => if c = true then a E ρ else b E ρ) (fun x => E.ex x ρ)
theorem sim_if {c : Expr} {a b : List Stmt} {wt : WT} {wa wb : WS} {pos : Pos} (hc : SimT X W Z CL ow0 Hb c wt) (ha : SimSs X W Z CL ow0 Hb a wa) (hb : SimSs X W Z CL ow0 Hb b wb) : SimS X W Z CL ow0 Hb (.If c a b pos) (wIfS wt wa wb) := by
  intro S ρ σ H ow E D r w o
  refine PSat.of (ps_if PTat.pt PSsat.ps PSsat.ps) (hc S ρ σ H ow _ _ _ r w (fun k H' p e z => ?_) (o.bd r))
  cases k with
  | true => exact ha S ρ σ H' ow E D (r.step e z) p o
  | false => exact hb S ρ σ H' ow E D (r.step e z) p o
def wDo (w : WE) : WS := fun E ρ => w ρ (fun _ => E.nx ρ) (fun x => E.ex x ρ)
theorem sim_do {e : Expr} {we : WE} {pos : Pos} (h : SimE X W Z CL ow0 Hb e we) (hs : swapsWith e none pos.line X.env = pure false := by rfl) : SimS X W Z CL ow0 Hb (.Expr e pos) (wDo we) := by
  intro S ρ σ H ow E D r w o
  exact PSat.of (ps_expr PEat.pe hs) (h S ρ σ H ow _ _ _ r w (fun y v H' p e z q => o.nx ρ σ H' ow p (r.step e z)) (o.bd r))
/-! ### stores -/
/-- as a slot holds it -/
def slv : Val → Option Val
  | .bor _ => none
  | y => some y
theorem Rel.set {S : Hp} {ρ : Ev} {σ : L2.St} {H : Hp} {ow : List Addr} {i : Nat} {v : V} {y : Val} (r : Rel CL Z X.K ow0 Hb S ρ σ H ow) {H1 : Hp} (e : SameBut (fp Z) H H1) (z : RZ Z H1) (h : RV CL Z X.K ow H H1 v y) (hy : slv y = some y) :
    ∃ ow', Rel CL Z X.K ow0 Hb S (ρ.set i (some y)) (σ.set i (some v)) H1 ow' := by
  have hl : (σ.set i (some v)).length = (ρ.set i (some y)).length := by simp [r.len]
  have r1 := r.step e z
  have old : ∀ (j : Nat) (w : Val), j ≠ i → (ρ.set i (some y))[j]? = some (some w) → ρ[j]? = some (some w) := fun j w n q => by rwa [List.getElem?_set_ne (Ne.symm n)] at q
  have at_i : ∀ (w : Val), (ρ.set i (some y))[i]? = some (some w) → w = y ∧ i < σ.length := fun w q => by
    by_cases hi : i < ρ.length
    · rw [List.getElem?_set_self hi] at q
      exact ⟨(Option.some.inj (Option.some.inj q)).symm, by rw [r.len]; exact hi⟩
    · rw [List.getElem?_eq_none (by simpa using hi)] at q
      cases q
  cases y with
  | bor xs => cases hy
  | own xs =>
    obtain ⟨p, vs, rfl, h0, n, hp, ha⟩ := h
    have hb : New Hb p := r.sb.free (fun q => n (r.gr.fpo p q)) h0
    have grow : Le (hid ow H) (hid (p :: ow) H1) := hid_mono e r.gr.fpo fun a m => (List.mem_cons.mp m).elim (fun q => .inr (q ▸ h0)) .inl
    refine ⟨p :: ow, ⟨z, fun a m => List.mem_cons_of_mem _ (r.gr.fpo a m), fun a m => ?_⟩, hl, r1.sb, fun a m => List.mem_cons_of_mem _ (r.sub a m), r.mark.trans grow, fun j w q => ?_, fun j k as bs q nj q1 q2 s1 s2 => ?_⟩
    · rcases List.mem_cons.mp m with rfl | m
      · exact ⟨_, nt_lst, hp⟩
      · exact r1.gr.isS a m
    · by_cases hj : j = i
      · subst hj
        obtain ⟨rfl, hi⟩ := at_i w q
        exact ⟨.ref p, by rw [List.getElem?_set_self hi], p, vs, rfl, hb, List.mem_cons_self, fun q => n (r.gr.fpo p q), hp, ha⟩
      · obtain ⟨u, u1, u2⟩ := r.val j w (old j w hj q)
        refine ⟨u, by rw [List.getElem?_set_ne (Ne.symm hj)]; exact u1, ?_⟩
        cases w with
        | d x => exact Dt.mono grow u2
        | own as =>
          obtain ⟨t, ts, rfl, t0, t1, t2, t3, t4⟩ := u2
          exact ⟨t, ts, rfl, t0, List.mem_cons_of_mem _ t1, t2, e t _ t2 nt_lst t3, DtAll.mono grow t4⟩
        | bor as => exact u2
        | bag => exact u2
        | fn f φ => exact u2
    · have fresh : ∀ (j : Nat) (as : List D), j ≠ i → ρ[j]? = some (some (.own as)) → σ[j]? = some (some (V.ref p)) → False := fun j as nj q1 s1 => by
        obtain ⟨u, u1, t, ts, rfl, t0, t1, t2, t3, t4⟩ := r.val j _ q1
        rw [s1] at u1
        cases u1
        exact h0 _ nt_lst t3
      by_cases hj : j = i
      · subst hj
        have hk : k ≠ j := Ne.symm nj
        rw [List.getElem?_set_self (at_i _ q1).2] at s1
        cases s1
        rw [List.getElem?_set_ne (Ne.symm hk)] at s2
        exact fresh k bs hk (old k _ hk q2) s2
      · by_cases hk : k = i
        · subst hk
          rw [List.getElem?_set_self (at_i _ q2).2] at s2
          cases s2
          rw [List.getElem?_set_ne (Ne.symm hj)] at s1
          exact fresh j as hj (old j _ hj q1) s1
        · rw [List.getElem?_set_ne (Ne.symm hj)] at s1
          rw [List.getElem?_set_ne (Ne.symm hk)] at s2
          exact r.sep j k as bs q nj (old j _ hj q1) (old k _ hk q2) s1 s2
  | d x =>
    refine ⟨ow, r1.gr, hl, r1.sb, r1.sub, r1.mark, fun j w q => ?_, fun j k as bs q nj q1 q2 s1 s2 => ?_⟩
    · by_cases hj : j = i
      · subst hj
        obtain ⟨rfl, hi⟩ := at_i w q
        exact ⟨v, by rw [List.getElem?_set_self hi], h⟩
      · obtain ⟨u, u1, u2⟩ := r1.val j w (old j w hj q)
        exact ⟨u, by rw [List.getElem?_set_ne (Ne.symm hj)]; exact u1, u2⟩
    · by_cases hj : j = i
      · subst hj
        cases (at_i _ q1).1
      · by_cases hk : k = i
        · subst hk
          cases (at_i _ q2).1
        · rw [List.getElem?_set_ne (Ne.symm hj)] at s1
          rw [List.getElem?_set_ne (Ne.symm hk)] at s2
          exact r.sep j k as bs q nj (old j _ hj q1) (old k _ hk q2) s1 s2
  | bag =>
    refine ⟨ow, r1.gr, hl, r1.sb, r1.sub, r1.mark, fun j w q => ?_, fun j k as bs q nj q1 q2 s1 s2 => ?_⟩
    · by_cases hj : j = i
      · subst hj
        obtain ⟨rfl, hi⟩ := at_i w q
        exact ⟨v, by rw [List.getElem?_set_self hi], h⟩
      · obtain ⟨u, u1, u2⟩ := r1.val j w (old j w hj q)
        exact ⟨u, by rw [List.getElem?_set_ne (Ne.symm hj)]; exact u1, u2⟩
    · by_cases hj : j = i
      · subst hj
        cases (at_i _ q1).1
      · by_cases hk : k = i
        · subst hk
          cases (at_i _ q2).1
        · rw [List.getElem?_set_ne (Ne.symm hj)] at s1
          rw [List.getElem?_set_ne (Ne.symm hk)] at s2
          exact r.sep j k as bs q nj (old j _ hj q1) (old k _ hk q2) s1 s2
  | fn f φ =>
    refine ⟨ow, r1.gr, hl, r1.sb, r1.sub, r1.mark, fun j w q => ?_, fun j k as bs q nj q1 q2 s1 s2 => ?_⟩
    · by_cases hj : j = i
      · subst hj
        obtain ⟨rfl, hi⟩ := at_i w q
        exact ⟨v, by rw [List.getElem?_set_self hi], h⟩
      · obtain ⟨u, u1, u2⟩ := r1.val j w (old j w hj q)
        exact ⟨u, by rw [List.getElem?_set_ne (Ne.symm hj)]; exact u1, u2⟩
    · by_cases hj : j = i
      · subst hj
        cases (at_i _ q1).1
      · by_cases hk : k = i
        · subst hk
          cases (at_i _ q2).1
        · rw [List.getElem?_set_ne (Ne.symm hj)] at s1
          rw [List.getElem?_set_ne (Ne.symm hk)] at s2
          exact r.sep j k as bs q nj (old j _ hj q1) (old k _ hk q2) s1 s2
def wSet (i : Nat) (w : WE) : WS := fun E ρ => w ρ (fun y => match slv y with
  | some y => E.nx (ρ.set i (some y))
  | none => False) (fun x => E.ex x ρ)
theorem slv_eq {y z : Val} (h : slv y = some z) : z = y := by cases y <;> first | (cases h; rfl) | cases h
theorem sim_set (i : Nat) {x : Str} {e : Expr} {we : WE} {pos pos' : Pos} (h : SimE X W Z CL ow0 Hb e we) (hN : X.N.Nodup) (hi : X.N[i]? = some x := by rfl) (hx : Loc X.env.scope x := by first | exact Or.inl rfl | exact Or.inr rfl)
    (hs : swapsWith e (some (.Name x pos')) pos.line X.env = pure false := by rfl) (hf : X.fn x = true ∨ X.env.scope.names.lookup x = some .local := by first | exact .inl rfl | exact .inr rfl | assumption) :
    SimS X W Z CL ow0 Hb (.Assign [.Name x pos'] e pos) (wSet i we) := by
  intro S ρ σ H ow E D r w o
  refine PSat.of (ps_set hN hi hx PEat.pe hs hf) (h S ρ σ H ow _ _ _ r w (fun y v H' p e z q => ?_) (o.bd r))
  split at p
  · rename_i t et
    have et' := slv_eq et
    subst et'
    obtain ⟨ow', r'⟩ := r.set (i := i) e z q et
    exact o.nx _ _ H' ow' p r'
  · exact p.elim
end
end Pd

/-! Pd7: targets, what is walked, for, list comprehensions over data. -/
namespace Pd
open PySem PySem.Spec PyProof.Rows L2

/-! ### targets -/
abbrev WB := Ev → D → (Ev → Prop) → Prop
abbrev WBs := Ev → List D → (Ev → Prop) → Prop
structure PGat (X : Cx) (tg : Expr) (v : V) (σ : L2.St) (H : Hp) (Q : (L2.St → Hp → Prop)) : Prop where
  go : ∀ pins s u, Inv X pins σ H s → RelV v u → wpAny (model X.prog X.w) X.A (assign tg X.env u) (fun _ s' => ∃ σ' H', Inv X pins σ' H' s' ∧ Q σ' H') X.xe s
theorem PGat.pg {X : Cx} {tg : Expr} : PG X tg (PGat X tg) := ⟨fun pins s σ H v u Q I r h => h.go pins s u I r⟩
theorem PGat.of {X : Cx} {tg : Expr} {t : TG} (h : PG X tg t) {v : V} {σ : L2.St} {H : Hp} {Q : L2.St → Hp → Prop} (q : t v σ H Q) : PGat X tg v σ H Q := ⟨fun pins s u I r => h.run pins s σ H v u Q I r q⟩
structure PGsat (X : Cx) (ts : List Expr) (vs : List V) (σ : L2.St) (H : Hp) (Q : (L2.St → Hp → Prop)) : Prop where
  go : ∀ pins s us, Inv X pins σ H s → Vals vs us → wpAny (model X.prog X.w) X.A (assignInOrder ((assignEach ts X.env).map (·.2)) us) (fun _ s' => ∃ σ' H', Inv X pins σ' H' s' ∧ Q σ' H') X.xe s
theorem PGsat.pg {X : Cx} {ts : List Expr} : PGs X ts (PGsat X ts) := ⟨fun pins s σ H vs us Q I r h => h.go pins s us I r⟩
theorem PGsat.of {X : Cx} {ts : List Expr} {t : TGs} (h : PGs X ts t) {vs : List V} {σ : L2.St} {H : Hp} {Q : L2.St → Hp → Prop} (q : t vs σ H Q) : PGsat X ts vs σ H Q := ⟨fun pins s us I r => h.run pins s σ H vs us Q I r q⟩
/-- the slots that are not told stay -/
def Only (is : List Nat) (σ σ' : L2.St) : Prop := σ'.length = σ.length ∧ ∀ j, j ∉ is → σ'[j]? = σ[j]?
theorem Only.refl (is : List Nat) (σ : L2.St) : Only is σ σ := ⟨rfl, fun _ _ => rfl⟩
theorem Only.trans {is : List Nat} {a b c : L2.St} (x : Only is a b) (y : Only is b c) : Only is a c := ⟨y.1.trans x.1, fun j h => (y.2 j h).trans (x.2 j h)⟩
theorem Only.mono {is js : List Nat} {a b : L2.St} (x : Only is a b) (h : ∀ i ∈ is, i ∈ js) : Only js a b := ⟨x.1, fun j n => x.2 j fun m => n (h j m)⟩
/-- .. and no list is owned anew -/
def OnlyE (is : List Nat) (ρ : Ev) (σ : L2.St) (ρ' : Ev) (σ' : L2.St) : Prop := Only is σ σ' ∧ ∀ (j : Nat) (as : List D), ρ'[j]? = some (some (.own as)) → ρ[j]? = some (some (.own as)) ∧ j ∉ is
section
variable (X : Cx) (Z : Ext) (CL : Calls) (ow0 : List Addr) (Hb : Hp)
def SimB (tg : Expr) (b : WB) (is : List Nat) : Prop := ∀ (S : Hp) (ρ : Ev) (σ : L2.St) (H : Hp) (ow : List Addr) (d : D) (v : V) (k : Ev → Prop) (Q : L2.St → Hp → Prop),
  Rel CL Z X.K ow0 Hb S ρ σ H ow → Dt X.K (hid ow H) v d → b ρ d k → (∀ ρ' σ', k ρ' → Rel CL Z X.K ow0 Hb S ρ' σ' H ow → OnlyE is ρ σ ρ' σ' → Q σ' H) → PGat X tg v σ H Q
def SimBs (ts : List Expr) (b : WBs) (is : List Nat) : Prop := ∀ (S : Hp) (ρ : Ev) (σ : L2.St) (H : Hp) (ow : List Addr) (ds : List D) (vs : List V) (k : Ev → Prop) (Q : L2.St → Hp → Prop),
  Rel CL Z X.K ow0 Hb S ρ σ H ow → DtAll X.K (hid ow H) vs ds → b ρ ds k → (∀ ρ' σ', k ρ' → Rel CL Z X.K ow0 Hb S ρ' σ' H ow → OnlyE is ρ σ ρ' σ' → Q σ' H) → PGsat X ts vs σ H Q
end
section
variable {X : Cx} {W : WX} {Z : Ext} {CL : Calls} {ow0 : List Addr} {Hb : Hp}
theorem Rel.setD {S : Hp} {ρ : Ev} {σ : L2.St} {H : Hp} {ow : List Addr} {i : Nat} {v : V} {x : D} (r : Rel CL Z X.K ow0 Hb S ρ σ H ow) (h : Dt X.K (hid ow H) v x) : Rel CL Z X.K ow0 Hb S (ρ.set i (some (.d x))) (σ.set i (some v)) H ow := by
  refine ⟨r.gr, by simp [r.len], r.sb, r.sub, r.mark, fun j w q => ?_, fun j k as bs q nj q1 q2 s1 s2 => ?_⟩
  · by_cases hj : j = i
    · subst hj
      by_cases hi : j < ρ.length
      · rw [List.getElem?_set_self hi] at q
        cases q
        exact ⟨v, by rw [List.getElem?_set_self (by rw [r.len]; exact hi)], h⟩
      · rw [List.getElem?_eq_none (by simpa using hi)] at q
        cases q
    · rw [List.getElem?_set_ne (Ne.symm hj)] at q
      obtain ⟨u, u1, u2⟩ := r.val j w q
      exact ⟨u, by rw [List.getElem?_set_ne (Ne.symm hj)]; exact u1, u2⟩
  · have no : ∀ (j : Nat) (as : List D), (ρ.set i (some (.d x)))[j]? = some (some (.own as)) → j ≠ i ∧ ρ[j]? = some (some (.own as)) := fun j as q => by
      by_cases hj : j = i
      · subst hj
        by_cases hi : j < ρ.length
        · rw [List.getElem?_set_self hi] at q
          cases q
        · rw [List.getElem?_eq_none (by simpa using hi)] at q
          cases q
      · rw [List.getElem?_set_ne (Ne.symm hj)] at q
        exact ⟨hj, q⟩
    obtain ⟨hj, q1⟩ := no j as q1
    obtain ⟨hk, q2⟩ := no k bs q2
    rw [List.getElem?_set_ne (Ne.symm hj)] at s1
    rw [List.getElem?_set_ne (Ne.symm hk)] at s2
    exact r.sep j k as bs q nj q1 q2 s1 s2
def bName (i : Nat) : WB := fun ρ d k => k (ρ.set i (some (.d d)))
theorem sim_bname (i : Nat) {x : Str} {pos : Pos} (hN : X.N.Nodup) (hi : X.N[i]? = some x := by rfl) (hx : Loc X.env.scope x := by first | exact Or.inl rfl | exact Or.inr rfl)
    (hf : X.fn x = true ∨ X.env.scope.names.lookup x = some .local := by first | exact .inl rfl | exact .inr rfl | assumption) : SimB X Z CL ow0 Hb (.Name x pos) (bName i) [i] := by
  intro S ρ σ H ow d v k Q r h w g
  refine PGat.of (pg_name hN hi hx hf) (g _ _ w (r.setD h) ⟨⟨by simp, fun j n => ?_⟩, fun j as q => ?_⟩)
  · rw [List.getElem?_set_ne (fun e => n (by simp [e]))]
  · by_cases hj : j = i
    · subst hj
      by_cases hl : j < ρ.length
      · rw [List.getElem?_set_self hl] at q
        cases q
      · rw [List.getElem?_eq_none (by simpa using hl)] at q
        cases q
    · rw [List.getElem?_set_ne (Ne.symm hj)] at q
      exact ⟨q, by simpa using hj⟩
def bNil : WBs := fun ρ ds k => ds = [] ∧ k ρ
def bCons (b : WB) (bs : WBs) : WBs := fun ρ ds k => match ds with
  | d :: r => b ρ d fun ρ' => bs ρ' r k
  | [] => False
theorem sim_btnil : SimBs X Z CL ow0 Hb [] bNil [] := by
  intro S ρ σ H ow ds vs k Q r h w g
  obtain ⟨rfl, w⟩ := w
  cases h
  exact PGsat.of pgs_nil ⟨rfl, g _ _ w r ⟨.refl _ _, fun j as q => ⟨q, by simp⟩⟩⟩
theorem sim_btcons {e : Expr} {es : List Expr} {b : WB} {bs : WBs} {is js : List Nat} (h1 : SimB X Z CL ow0 Hb e b is) (h2 : SimBs X Z CL ow0 Hb es bs js)
    (hs : (assignEach (e :: es) X.env).map (·.2) = assign e X.env :: (assignEach es X.env).map (·.2) := by rfl) : SimBs X Z CL ow0 Hb (e :: es) (bCons b bs) (is ++ js) := by
  intro S ρ σ H ow ds vs k Q r h w g
  cases h with
  | nil => exact (w : False).elim
  | cons hd ht =>
    refine PGsat.of (pgs_cons PGat.pg PGsat.pg hs) ⟨_, _, rfl, ?_⟩
    refine h1 S ρ σ H ow _ _ _ _ r hd w fun ρ' σ' w' r' o' => ?_
    refine h2 S ρ' σ' H ow _ _ _ _ r' ht w' fun ρ2 σ2 w2 r2 o2 => ?_
    exact g ρ2 σ2 w2 r2 ⟨(o'.1.mono fun i m => List.mem_append_left _ m).trans (o2.1.mono fun i m => List.mem_append_right _ m), fun j as q => by
      obtain ⟨a1, a2⟩ := o2.2 j as q
      obtain ⟨b1, b2⟩ := o'.2 j as a1
      exact ⟨b1, fun m => (List.mem_append.mp m).elim b2 a2⟩⟩
/-- a, b, .. of a tuple -/
def bTup (bs : WBs) : WB := fun ρ d k => match d with
  | .tuple ds => bs ρ ds k
  | _ => False
theorem sim_btup {es : List Expr} {kk : Nat} {pos : Pos} {bs : WBs} {is : List Nat} {n : Nat} (hc : X.calm = true) (h : SimBs X Z CL ow0 Hb es bs is) (hlen : ∀ ρ ds k, bs ρ ds k → ds.length = n)
    (hn : (assignEach es X.env).length = n := by rfl) (hst : (assignEach es X.env).findIdx? (·.1) = none := by rfl) : SimB X Z CL ow0 Hb (.Tuple es kk pos) (bTup bs) is := by
  intro S ρ σ H ow d v k Q r h' w g
  cases d with
  | tuple ds =>
    cases h' with
    | tup h1 h2 =>
      exact PGat.of (pg_tup hc PGsat.pg hn hst) ⟨_, _, rfl, hid_le.sqt h1, by rw [h2.length]; exact hlen _ _ _ w, h S ρ σ H ow _ _ _ _ r h2 w g⟩
  | _ => exact (w : False).elim
theorem bNil_len : ∀ (ρ : Ev) (ds : List D) (k : Ev → Prop), bNil ρ ds k → ds.length = 0 := fun _ _ _ h => by rw [h.1]; rfl
theorem bCons_len {b : WB} {bs : WBs} {n : Nat} (hb : ∀ ρ d k, b ρ d k → ∃ ρ', k ρ') (h : ∀ ρ ds k, bs ρ ds k → ds.length = n) : ∀ (ρ : Ev) (ds : List D) (k : Ev → Prop), bCons b bs ρ ds k → ds.length = n + 1 := fun ρ ds k w => by
  cases ds with
  | nil => exact (w : False).elim
  | cons d r =>
    obtain ⟨ρ', w'⟩ := hb _ _ _ w
    simp [h _ _ _ w']
theorem bName_has {i : Nat} : ∀ (ρ : Ev) (d : D) (k : Ev → Prop), bName i ρ d k → ∃ ρ', k ρ' := fun _ _ _ h => ⟨_, h⟩
theorem bNil_has : ∀ (ρ : Ev) (ds : List D) (k : Ev → Prop), bNil ρ ds k → ∃ ρ', k ρ' := fun _ _ _ h => ⟨_, h.2⟩
theorem bCons_has {b : WB} {bs : WBs} (hb : ∀ ρ d k, b ρ d k → ∃ ρ', k ρ') (h : ∀ ρ ds k, bs ρ ds k → ∃ ρ', k ρ') : ∀ (ρ : Ev) (ds : List D) (k : Ev → Prop), bCons b bs ρ ds k → ∃ ρ', k ρ' := fun ρ ds k w => by
  cases ds with
  | nil => exact (w : False).elim
  | cons d r =>
    obtain ⟨ρ', w'⟩ := hb _ _ _ w
    exact h _ _ _ w'
theorem bTup_has {bs : WBs} (h : ∀ ρ ds k, bs ρ ds k → ∃ ρ', k ρ') : ∀ (ρ : Ev) (d : D) (k : Ev → Prop), bTup bs ρ d k → ∃ ρ', k ρ' := fun ρ d k w => by
  cases d with
  | tuple ds => exact h _ _ _ w
  | _ => exact (w : False).elim

/-! ### what is walked -/
/-- J yields the data ds while S1 stands -/
structure ItD (K : PySem.W.Frag) (S1 : Hp) (J : It) (ds : List D) : Prop where
  go : ∀ i H, Le S1 H → i < ds.length → J.go i H
  stop : ∀ H, Le S1 H → J.stop ds.length H
  yld : ∀ (i : Nat) (H : Hp) (x : V) (H' : Hp) (ow : List Addr) (d : D), (∀ a ∈ ow, ∃ o, NT o ∧ H a = some o) → Le S1 (hid ow H) → ds[i]? = some d → J.yld i H x H' → Le H H' ∧ Dt K (hid ow H') x d
abbrev WI := Ev → (List D → Prop) → (Xn → Prop) → Prop
structure PIat (X : Cx) (tg iter : Expr) (σ : L2.St) (H : Hp) (R : (It → Hp → Prop)) : Prop where
  go : ∀ pins s, Inv X pins σ H s → wpAny (model X.prog X.w) X.A (eval iter X.env) (fun v s1 => wpAny (model X.prog X.w) X.A (pyIter v) (PIE X pins σ tg R) X.xe s1) X.xe s
def Held (X : Cx) (H : Hp) : Prop := ∃ h, HOk X.prog X.w H h
theorem PIat.pi {tg iter : Expr} : PI X tg iter (fun σ H R => PIat X tg iter σ H fun J H' => Held X H' → R J H') := by
  refine ⟨fun pins s σ H R I h => ?_⟩
  refine thn (h.go pins s I) fun v s1 h1 => thn h1 fun itv s2 h2 => ?_
  obtain ⟨it, fp, tn, J, H', e, I2, T, st, f, q⟩ := h2
  exact ⟨it, fp, tn, J, H', e, I2, T, st, f, q ⟨_, I2.hok⟩⟩
theorem PIat.of {tg iter : Expr} {t : TI} (h : PI X tg iter t) {σ : L2.St} {H : Hp} {R : It → Hp → Prop} (q : t σ H R) : PIat X tg iter σ H R := ⟨fun pins s I => h.run pins s σ H R I q⟩
def SimI (X : Cx) (W : WX) (Z : Ext) (CL : Calls) (ow0 : List Addr) (Hb : Hp) (tg iter : Expr) (w : WI) : Prop := ∀ (S : Hp) (ρ : Ev) (σ : L2.St) (H : Hp) (ow : List Addr) (P : List D → Prop) (Ex : Xn → Prop) (R : It → Hp → Prop),
  Rel CL Z X.K ow0 Hb S ρ σ H ow → w ρ P Ex → (∀ ds J H', P ds → SameBut (fp Z) H H' → RZ Z H' → ItD X.K (hid ow H') J ds → (Held X H' → ds.length ≤ sizeLine) → R J H') → Bd Z X.K ow X.mg W σ H Ex → PIat X tg iter σ H R
theorem sqt_len {H : Hp} {a : Addr} {xs : List V} (h : SqT X.K H a xs) (hh : Held X H) : xs.length ≤ sizeLine := by
  obtain ⟨hp, ok⟩ := hh
  rcases h with h | ⟨o, its, n, _, _, _, hz, hv⟩
  · obtain ⟨z, _⟩ := h.ok ok
    exact z
  · have := hv.length
    simp at this
    omega
theorem lst_len {H : Hp} {a : Addr} {xs : List V} (h : H a = some (.lst xs)) (hh : Held X H) : xs.length ≤ sizeLine := by
  obtain ⟨hp, ok⟩ := hh
  obtain ⟨z, _⟩ := ok a _ h
  exact z
theorem itD_tup {K : PySem.W.Frag} {S1 : Hp} {a : Addr} {vs : List V} {ds : List D} (h : SqT K S1 a vs) (ha : DtAll K S1 vs ds) : ItD K S1 (Itt K a) ds where
  go := fun i H e hi => ⟨vs, vs[i]'(by rw [ha.length]; exact hi), e.sqt h, by simp [ha.length, hi]⟩
  stop := fun H e => ⟨vs, e.sqt h, by rw [ha.length]; exact Nat.le_refl _⟩
  yld := fun i H x H' ow d _ e hd y => by
    obtain ⟨rfl, y⟩ := y
    have hx := y vs ((e.trans hid_le).sqt h)
    obtain ⟨d', h1, h2⟩ := ha.get' hx
    rw [hd] at h1
    cases h1
    exact ⟨.refl _, Dt.mono e h2⟩
theorem itD_lst {K : PySem.W.Frag} {S1 : Hp} {a : Addr} {vs : List V} {ds : List D} (h : S1 a = some (.lst vs)) (ha : DtAll K S1 vs ds) : ItD K S1 (Itl K a) ds where
  go := fun i H e hi => ⟨vs, vs[i]'(by rw [ha.length]; exact hi), .inl (.of (e _ _ h)), by simp [ha.length, hi]⟩
  stop := fun H e => ⟨vs, .inl (.of (e _ _ h)), by rw [ha.length]; exact Nat.le_refl _⟩
  yld := fun i H x H' ow d _ e hd y => by
    obtain ⟨rfl, y⟩ := y
    have hx := y vs (.inl (.of ((e.trans hid_le) _ _ h)))
    obtain ⟨d', h1, h2⟩ := ha.get' hx
    rw [hd] at h1
    cases h1
    exact ⟨.refl _, Dt.mono e h2⟩
def wIt (w : WE) : WI := fun ρ P Ex => w ρ (fun y => match y.kp with
  | some (.tuple ds) => P ds
  | _ => False) Ex
def wItL (w : WE) : WI := fun ρ P Ex => w ρ (fun y => match y.kp with
  | some (.list ds) => P ds
  | _ => False) Ex
/-- over a tuple -/
theorem sim_it {tg e : Expr} {we : WE} (h : SimE X W Z CL ow0 Hb e we) : SimI X W Z CL ow0 Hb tg e (wIt we) := by
  intro S ρ σ H ow P Ex R r w g b
  refine PIat.of (pi_tup PEat.pe) (h S ρ σ H ow _ Ex _ r w (fun y v H' p e z q => ?_) b)
  split at p
  · rename_i ds ed
    cases q.kp ed with
    | tup h1 h2 => exact ⟨_, rfl, ⟨_, hid_le.sqt h1⟩, g ds _ H' p e z (itD_tup h1 h2) fun hh => by rw [← h2.length]; exact sqt_len (hid_le.sqt h1) hh⟩
  · exact p.elim
/-- over a list that is not changed meanwhile -/
theorem sim_itL {tg e : Expr} {we : WE} (h : SimE X W Z CL ow0 Hb e we) : SimI X W Z CL ow0 Hb tg e (wItL we) := by
  intro S ρ σ H ow P Ex R r w g b
  refine PIat.of (pi_list PEat.pe) (h S ρ σ H ow _ Ex _ r w (fun y v H' p e z q => ?_) b)
  split at p
  · rename_i ds ed
    cases q.kp ed with
    | lst h1 h2 => exact ⟨_, rfl, ⟨_, .inl (.of (hid_le _ _ h1))⟩, g ds _ H' p e z (itD_lst h1 h2) fun hh => by rw [← h2.length]; exact lst_len (hid_le _ _ h1) hh⟩
  · exact p.elim
/-- lo, lo + 1, .. so many -/
def countD (lo : Int) (n : Nat) : List D := (List.range n).map fun i => .int (lo + (i : Nat))
theorem countD_len (lo : Int) (n : Nat) : (countD lo n).length = n := by simp [countD]
theorem itD_rng {K : PySem.W.Frag} {S1 : Hp} {lo : Int} {n : Nat} : ItD K S1 (Itr lo n) (countD lo n) where
  go := fun i H e hi => by rw [countD_len] at hi; exact hi
  stop := fun H e => by rw [countD_len]; exact Nat.le_refl _
  yld := fun i H x H' ow d _ e hd y => by
    obtain ⟨rfl, rfl⟩ := y
    have hi : i < n := by
      have := (List.getElem?_eq_some_iff.mp hd).1
      rwa [countD_len] at this
    unfold countD at hd
    rw [List.getElem?_map, List.getElem?_range hi] at hd
    cases hd
    exact ⟨.refl _, .int _⟩
/-- within the bounds that a range has -/
def rgOk (i : Int) : Prop := -(2 ^ 62) ≤ i ∧ i < 2 ^ 62
def wRng1 (w : WA) : WI := fun ρ P Ex => w ρ (fun ys => match ys with
  | [y] => match y.rd with
    | some (.int j) => rgOk j ∧ j.toNat ≤ sizeLine ∧ P (countD 0 j.toNat)
    | _ => False
  | _ => False) Ex
def wRng2 (w : WA) : WI := fun ρ P Ex => w ρ (fun ys => match ys with
  | [x, y] => match x.rd, y.rd with
    | some (.int i), some (.int j) => rgOk i ∧ rgOk j ∧ (j - i).toNat ≤ sizeLine ∧ P (countD i (j - i).toNat)
    | _, _ => False
  | _ => False) Ex
theorem sim_rng1 {tg a : Expr} {wa : WA} {p pos : Pos} (hg : Gl X "range") (hm : X.mg "range" = none) (h : SimA X W Z CL ow0 Hb [a] wa) (hs : starEach [a] X.env = [(false, eval a X.env)] := by rfl) : SimI X W Z CL ow0 Hb tg (.Call (.Name "range" p) [a] [] pos) (wRng1 wa) := by
  intro S ρ σ H ow P Ex R r w g b
  refine PIat.of (pi_range1 hg hm PAat.pa hs) (h S ρ σ H ow _ Ex _ r w (fun ys vs H' p e z q => ?_) b)
  split at p
  · split at p
    · rename_i y j ej
      cases q with
      | cons q1 q2 =>
        cases q2
        exact ⟨j, by rw [q1.int ej], p.1.1, p.1.2, g _ _ H' p.2.2 e z itD_rng fun _ => by rw [countD_len]; exact p.2.1⟩
    · exact p.elim
  · exact p.elim
theorem sim_rng2 {tg a c : Expr} {wa : WA} {p pos : Pos} (hg : Gl X "range") (hm : X.mg "range" = none) (h : SimA X W Z CL ow0 Hb [a, c] wa) (hs : starEach [a, c] X.env = [(false, eval a X.env), (false, eval c X.env)] := by rfl) (hs2 : starEach [c] X.env = [(false, eval c X.env)] := by rfl) :
    SimI X W Z CL ow0 Hb tg (.Call (.Name "range" p) [a, c] [] pos) (wRng2 wa) := by
  intro S ρ σ H ow P Ex R r w g b
  refine PIat.of (pi_range2 hg hm PAat.pa hs hs2) (h S ρ σ H ow _ Ex _ r w (fun ys vs H' p e z q => ?_) b)
  split at p
  · split at p
    · rename_i x y i j ei ej
      cases q with
      | cons q1 q2 =>
        cases q2 with
        | cons q2 q3 =>
          cases q3
          exact ⟨i, j, by rw [q1.int ei, q2.int ej], ⟨p.1.1, p.1.2, p.2.1.1, p.2.1.2⟩, g _ _ H' p.2.2.2 e z itD_rng fun _ => by rw [countD_len]; exact p.2.2.1⟩
    · exact p.elim
  · exact p.elim
/-- a text, sign by sign -/
def signsD (x : Str) : List D := x.cps.toList.map fun c => .str ⟨#[c]⟩
def wItS (w : WE) : WI := fun ρ P Ex => w ρ (fun y => match y.rd with
  | some (.str x) => x.length ≤ sizeLine ∧ P (signsD x)
  | _ => False) Ex
theorem itD_str {K : PySem.W.Frag} {S1 : Hp} {x : Str} : ItD K S1 (Its x) (signsD x) where
  go := fun i H e hi => by
    show i < x.cps.size
    simpa [signsD] using hi
  stop := fun H e => by simp [signsD, Its]
  yld := fun i H v H' ow d _ e hd y => by
    obtain ⟨rfl, c, h1, rfl⟩ := y
    unfold signsD at hd
    rw [List.getElem?_map, Array.getElem?_toList, h1] at hd
    cases hd
    exact ⟨.refl _, .str _⟩
theorem sim_itS {tg e : Expr} {we : WE} (h : SimE X W Z CL ow0 Hb e we) : SimI X W Z CL ow0 Hb tg e (wItS we) := by
  intro S ρ σ H ow P Ex R r w g b
  refine PIat.of (pi_str PEat.pe) (h S ρ σ H ow _ Ex _ r w (fun y v H' p e z q => ?_) b)
  split at p
  · rename_i x ed
    exact ⟨x, q.str ed, g _ _ H' p.2 e z itD_str fun _ => by simpa [signsD, Str.length] using p.1⟩
  · exact p.elim

/-! ### for -/
def forW (b : WB) (body : WS) (E : En) : List D → Ev → Prop
  | [], ρ => E.nx ρ
  | d :: ds, ρ => b ρ d fun ρ' => body { E with nx := forW b body E ds, ct := forW b body E ds, bk := E.nx } ρ'
def wFor (wi : WI) (b : WB) (body : WS) : WS := fun E ρ => wi ρ (fun ds => forW b body E ds ρ) (fun x => E.ex x ρ)
theorem Rel.remark {S S' : Hp} {ρ : Ev} {σ : L2.St} {H : Hp} {ow : List Addr} (r : Rel CL Z X.K ow0 Hb S ρ σ H ow) (h : Le S' (hid ow H)) : Rel CL Z X.K ow0 Hb S' ρ σ H ow := ⟨r.gr, r.len, r.sb, r.sub, h, r.val, r.sep⟩
theorem DOK.remark {S S' : Hp} {E : En} {D : L2.Ends} (o : DOK X W Z CL ow0 Hb S E D) (h : Le S S') : DOK X W Z CL ow0 Hb S' E D :=
  ⟨fun ρ σ H ow p r => o.nx ρ σ H ow p (r.remark (h.trans r.mark)), fun ρ σ H ow p r => o.bk ρ σ H ow p (r.remark (h.trans r.mark)), fun ρ σ H ow p r => o.ct ρ σ H ow p (r.remark (h.trans r.mark)), o.rt, fun x ρ σ H ow cls d p r => o.ex x ρ σ H ow cls d p (r.remark (h.trans r.mark))⟩
theorem sim_for {tg iter : Expr} {body : List Stmt} {wi : WI} {b : WB} {is : List Nat} {wb : WS} {pos : Pos} (hp : PassesOwn (model X.prog X.w) X.A X.env X.xe) (hc : X.calm = true) (hi : SimI X W Z CL ow0 Hb tg iter wi) (hg : SimB X Z CL ow0 Hb tg b is) (hb : SimSs X W Z CL ow0 Hb body wb)
    (hs : ∀ x, foldedSetIterable iter X.env x = pure x := by intro _; rfl) : SimS X W Z CL ow0 Hb (.For tg iter body [] pos) (wFor wi b wb) := by
  intro S ρ σ H ow E D r w o
  refine PSat.of (ps_for hp hc PIat.pi PGat.pg PSsat.ps hs) ?_
  refine hi S ρ σ H ow _ _ _ r w (fun ds J H1 p e z hJ _ => fun _ => ?_) (o.bd r)
  have r1 : Rel CL Z X.K ow0 Hb (hid ow H1) ρ σ H1 ow := (r.step e z).remark (.refl _)
  have o1 : DOK X W Z CL ow0 Hb (hid ow H1) E D := o.remark (r.step e z).mark
  refine ⟨fun i m σ H => m = ds.length - i ∧ i ≤ ds.length ∧ ∃ ρ ow2, forW b wb E (ds.drop i) ρ ∧ Rel CL Z X.K ow0 Hb (hid ow H1) ρ σ H ow2, ⟨ds.length, by simp, Nat.zero_le _, ρ, ow, p, r1⟩, ?_⟩
  rintro i m σ2 H2 ⟨rfl, hi2, ρ2, ow2, p2, r2⟩
  have le : Le (hid ow H1) H2 := r2.mark.trans hid_le
  by_cases hlt : i < ds.length
  · refine .inr ⟨hJ.go i H2 le hlt, fun σ' H' => ∃ ρ ow2, forW b wb E (ds.drop (i + 1)) ρ ∧ Rel CL Z X.K ow0 Hb (hid ow H1) ρ σ' H' ow2, fun σ' H' ⟨ρ', ow', q⟩ => ⟨ds.length - (i + 1), by omega, rfl, hlt, ρ', ow', q⟩, fun x H' y => ?_⟩
    have hd : ds[i]? = some ds[i] := by simp [hlt]
    obtain ⟨l1, l2⟩ := hJ.yld i H2 x H' ow2 _ r2.gr.isS r2.mark hd y
    rw [List.drop_eq_getElem_cons hlt] at p2
    have r3 := r2.step (.of_le l1) (r2.gr.ext.le l1)
    refine hg _ ρ2 σ2 H' ow2 _ _ _ _ r3 l2 p2 fun ρ3 σ3 p3 r4 _ => ?_
    refine hb _ ρ3 σ3 H' ow2 _ _ r4 p3 ⟨fun ρ4 σ4 H4 ow4 q4 r5 => ⟨ρ4, ow4, q4, r5⟩, fun ρ4 σ4 H4 ow4 q4 r5 => o1.nx ρ4 σ4 H4 ow4 q4 r5, fun ρ4 σ4 H4 ow4 q4 r5 => ⟨ρ4, ow4, q4, r5⟩, o1.rt, o1.ex⟩
  · have ei : i = ds.length := by omega
    subst ei
    rw [List.drop_length] at p2
    exact .inl ⟨hJ.stop H2 le, o1.nx ρ2 σ2 H2 ow2 p2 r2⟩

/-! ### list comprehensions -/
def wipeE (ρ : Ev) : List Nat → Ev
  | [] => ρ
  | v :: vs => (wipeE ρ vs).set v none
theorem wipeE_len (ρ : Ev) : ∀ vs : List Nat, (wipeE ρ vs).length = ρ.length
  | [] => rfl
  | v :: vs => by unfold wipeE; rw [List.length_set, wipeE_len ρ vs]
theorem wipeE_some {ρ : Ev} {i : Nat} {x : Val} : ∀ {vs : List Nat}, (wipeE ρ vs)[i]? = some (some x) → ρ[i]? = some (some x) ∧ i ∉ vs
  | [], h => ⟨h, by simp⟩
  | v :: vs, h => by
    unfold wipeE at h
    by_cases hi : v = i
    · subst hi
      by_cases hv : v < (wipeE ρ vs).length
      · rw [List.getElem?_set_self hv] at h; cases h
      · rw [List.getElem?_eq_none (by simpa using hv)] at h; cases h
    · rw [List.getElem?_set_ne hi] at h
      obtain ⟨h1, h2⟩ := wipeE_some h
      exact ⟨h1, by simp only [List.mem_cons, not_or]; exact ⟨fun e => hi e.symm, h2⟩⟩
theorem wipe_get {σ : L2.St} {i : Nat} : ∀ {vs : List Nat}, i ∉ vs → (wipe σ vs)[i]? = σ[i]?
  | [], _ => rfl
  | v :: vs, h => by
    unfold wipe
    simp only [List.mem_cons, not_or] at h
    rw [List.getElem?_set_ne (fun e => h.1 e.symm), wipe_get h.2]
theorem wipe_in {σ : L2.St} {i : Nat} : ∀ {vs : List Nat}, i ∈ vs → i < σ.length → (wipe σ vs)[i]? = some none
  | v :: vs, h, hl => by
    unfold wipe
    by_cases e : v = i
    · subst e
      rw [List.getElem?_set_self (by rw [wipe_length]; exact hl)]
    · rw [List.getElem?_set_ne e]
      exact wipe_in ((List.mem_cons.mp h).resolve_left fun z => e z.symm) hl
theorem Only.wipe {vs : List Nat} {a b : L2.St} (o : Only vs a b) : wipe b vs = wipe a vs := by
  apply List.ext_getElem?
  intro i
  by_cases h : i ∈ vs
  · by_cases hl : i < a.length
    · rw [wipe_in h hl, wipe_in h (by rw [o.1]; exact hl)]
    · rw [List.getElem?_eq_none (by rw [wipe_length, o.1]; omega), List.getElem?_eq_none (by rw [wipe_length]; omega)]
  · rw [wipe_get h, wipe_get h, o.2 i h]
theorem wipe_wipe (σ : L2.St) (vs : List Nat) : wipe (wipe σ vs) vs = wipe σ vs :=
  Only.wipe (vs := vs) ⟨wipe_length σ vs, fun j h => wipe_get h⟩
theorem Rel.wiped {S : Hp} {ρ : Ev} {σ : L2.St} {H : Hp} {ow : List Addr} (r : Rel CL Z X.K ow0 Hb S ρ σ H ow) (vs : List Nat) : Rel CL Z X.K ow0 Hb S (wipeE ρ vs) (wipe σ vs) H ow :=
  r.weak (by rw [wipe_length, wipeE_len, r.len]) fun i y h => by
    obtain ⟨h1, h2⟩ := wipeE_some h
    exact ⟨h1, wipe_get h2⟩
/-- the tests of a comprehension -/
structure PTsat (X : Cx) (ifs : List Expr) (σ : L2.St) (H : Hp) (Q : (Bool → Hp → Prop)) : Prop where
  go : ∀ pins s, Inv X pins σ H s → wpAny (model X.prog X.w) X.A (forIn ifs true fun c r => if r = true then do let ok ← isTrue c X.env (eval c X.env); pure (ForInStep.yield ok) else pure (ForInStep.yield r)) (TP X pins σ Q) X.xe s
theorem PTsat.pt {ifs : List Expr} : PTs X ifs (PTsat X ifs) := ⟨fun pins s σ H Q I h => h.go pins s I⟩
theorem PTsat.of {ifs : List Expr} {t : TT} (h : PTs X ifs t) {σ : L2.St} {H : Hp} {Q : Bool → Hp → Prop} (q : t σ H Q) : PTsat X ifs σ H Q := ⟨fun pins s I => h.run pins s σ H Q I q⟩
def SimTs (X : Cx) (W : WX) (Z : Ext) (CL : Calls) (ow0 : List Addr) (Hb : Hp) (ifs : List Expr) (w : WT) : Prop := ∀ (S : Hp) (ρ : Ev) (σ : L2.St) (H : Hp) (ow : List Addr) (P : Bool → Prop) (Ex : Xn → Prop) (Q : Bool → Hp → Prop),
  Rel CL Z X.K ow0 Hb S ρ σ H ow → w ρ P Ex → GdT Z H P Q → Bd Z X.K ow X.mg W σ H Ex → PTsat X ifs σ H Q
def wYes : WT := fun _ P _ => P true
theorem sim_tsnil : SimTs X W Z CL ow0 Hb [] wYes := fun S ρ σ H ow P Ex Q r w g b => PTsat.of pts_nil (g true H w (.refl _ _) r.gr.ext)
theorem sim_tsone {c : Expr} {wc : WT} (h : SimT X W Z CL ow0 Hb c wc) : SimTs X W Z CL ow0 Hb [c] wc := fun S ρ σ H ow P Ex Q r w g b => PTsat.of (pts_one PTat.pt) (h S ρ σ H ow P Ex Q r w g b)
abbrev W0 : WX := fun _ _ _ _ => False
def lcW (b : WB) (tt : WT) (we : WE) (ρ0 : Ev) (P : List D → Prop) : List D → List D → Prop
  | [], acc => P acc
  | d :: ds, acc => b ρ0 d fun ρ' => tt ρ' (fun c => if c = true then we ρ' (fun y => match y.kp with
      | some e => lcW b tt we ρ0 P ds (acc ++ [e])
      | none => False) (fun _ => False) else lcW b tt we ρ0 P ds acc) (fun _ => False)
def wLc (wi : WI) (b : WB) (tt : WT) (we : WE) (vs : List Nat) : WE := fun ρ P Ex => wi ρ (fun ds => lcW b tt we (wipeE ρ vs) (fun acc => P (.own acc)) ds []) Ex
/-- another owned address, new -/
theorem Rel.more {S : Hp} {ρ : Ev} {σ : L2.St} {H H' : Hp} {ow : List Addr} {p : Addr} (r : Rel CL Z X.K ow0 Hb S ρ σ H ow) (e : SameBut (fp Z) H H') (z : RZ Z H') (hp : New H p) (hp' : ∃ o, NT o ∧ H' p = some o) : Rel CL Z X.K ow0 Hb S ρ σ H' (p :: ow) := by
  have grow : Le (hid ow H) (hid (p :: ow) H') := hid_mono e r.gr.fpo fun a m => (List.mem_cons.mp m).elim (fun q => .inr (q ▸ hp)) .inl
  refine ⟨⟨z, fun a m => List.mem_cons_of_mem _ (r.gr.fpo a m), fun a m => ?_⟩, r.len, r.sb.trans e, fun a m => List.mem_cons_of_mem _ (r.sub a m), r.mark.trans grow, fun i y h => ?_, r.sep⟩
  · rcases List.mem_cons.mp m with rfl | m
    · exact hp'
    · exact (r.gr.step e z).isS a m
  · obtain ⟨u, u1, u2⟩ := r.val i y h
    refine ⟨u, u1, ?_⟩
    cases y with
    | d x => exact Dt.mono grow u2
    | own as =>
      obtain ⟨t, ts, rfl, t0, t1, t2, t3, t4⟩ := u2
      exact ⟨t, ts, rfl, t0, List.mem_cons_of_mem _ t1, t2, e t _ t2 nt_lst t3, DtAll.mono grow t4⟩
    | bor as => exact u2
    | bag => exact u2
    | fn f φ => exact u2
theorem hid_upd {ow : List Addr} {H : Hp} {p : Addr} {o : HO} (hp : p ∈ ow) : hid ow (upd H p o) = hid ow H := by
  funext a
  unfold hid
  by_cases m : a ∈ ow
  · rw [if_pos m, if_pos m]
  · rw [if_neg m, if_neg m, upd_ne (fun e : a = p => m (by rw [e]; exact hp))]
/-- an owned address of no slot is written -/
theorem Rel.put {S : Hp} {ρ : Ev} {σ : L2.St} {H : Hp} {ow : List Addr} {p : Addr} {us vs : List V} (r : Rel CL Z X.K ow0 Hb S ρ σ H ow) (hu : H p = some (.lst us)) (hp : p ∈ ow) (hf : p ∉ fp Z) (hb : New Hb p) (hs : ∀ (i : Nat) (as : List D), ρ[i]? = some (some (.own as)) → σ[i]? = some (some (V.ref p)) → False) : Rel CL Z X.K ow0 Hb S ρ σ (upd H p (.lst vs)) ow := by
  have same := hid_upd (H := H) (o := .lst vs) hp
  have sb' : SameBut (fp Z) Hb (upd H p (.lst vs)) := fun a u n t q => by
    have ne : a ≠ p := fun e => by rw [e] at q; exact hb u t q
    rw [upd_ne ne]
    exact r.sb a u n t q
  refine ⟨⟨r.gr.ext.upd hf hu, r.gr.fpo, fun a m => ?_⟩, r.len, sb', r.sub, by rw [same]; exact r.mark, fun i y h => ?_, r.sep⟩
  · by_cases e : a = p
    · subst e
      exact ⟨_, nt_lst, upd_same⟩
    · rw [upd_ne e]
      exact r.gr.isS a m
  · obtain ⟨u, u1, u2⟩ := r.val i y h
    refine ⟨u, u1, ?_⟩
    cases y with
    | d x => show Dt _ _ _ _; rw [same]; exact u2
    | own as =>
      obtain ⟨t, ts, rfl, t0, t1, t2, t3, t4⟩ := u2
      have ne : t ≠ p := fun e => hs i as h (e ▸ u1)
      exact ⟨t, ts, rfl, t0, t1, t2, by rw [upd_ne ne]; exact t3, by rw [same]; exact t4⟩
    | bor as => exact u2
    | bag => exact u2
    | fn f φ => exact u2
theorem lc_sound {tg iter elt : Expr} {ifs : List Expr} {scope : Scope} {wi : WI} {b : WB} {is : List Nat} {tt : WT} {we : WE} {vs : List Nat} (hi : SimI X W Z CL ow0 Hb tg iter wi) (his : ∀ i ∈ is, i ∈ vs)
    (g0 : Gr Z ow0 Hb)
    {g : TG} {t : TT} {te : TE}
    (hg : ∀ {S : Hp} {ρ : Ev} {σ : L2.St} {H : Hp} {ow : List Addr} {d : D} {v : V} {k : Ev → Prop} {Q : L2.St → Hp → Prop}, Rel CL Z X.K ow0 Hb S ρ σ H ow → Dt X.K (hid ow H) v d → b ρ d k → (∀ ρ' σ', k ρ' → Rel CL Z X.K ow0 Hb S ρ' σ' H ow → OnlyE is ρ σ ρ' σ' → Q σ' H) → g v σ H Q)
    (ht : ∀ {S : Hp} {ρ : Ev} {σ : L2.St} {H : Hp} {ow : List Addr} {P : Bool → Prop} {Q : Bool → Hp → Prop}, Rel CL Z X.K ow0 Hb S ρ σ H ow → tt ρ P (fun _ => False) → GdT Z H P Q → t σ H Q)
    (he : ∀ {S : Hp} {ρ : Ev} {σ : L2.St} {H : Hp} {ow : List Addr} {P : Val → Prop} {Q : VK}, Rel CL Z X.K ow0 Hb S ρ σ H ow → we ρ P (fun _ => False) → Gd CL Z X.K ow H P Q → te σ H Q)
    {S : Hp} {ρ : Ev} {σ : L2.St} {H : Hp} {ow : List Addr} {P : Val → Prop} {Ex : Xn → Prop} {Q : VK} (r : Rel CL Z X.K ow0 Hb S ρ σ H ow) (w : wLc wi b tt we vs ρ P Ex) (gd : Gd CL Z X.K ow H P Q) (bd : Bd Z X.K ow X.mg W σ H Ex) :
    tLc (fun σ H R => PIat X tg iter σ H fun J H' => Held X H' → R J H') g t te vs σ H Q := by
  refine hi S ρ σ H ow _ _ _ r w (fun ds J H1 p e z hJ hlen => fun hh => ?_) bd
  intro L hL
  have hsz := hlen hh
  have r1 := (r.step e z).remark (S' := hid ow H1) (.refl _)
  have hLz : L ∉ fp Z := fun m => r1.gr.no (.of hL) (r1.gr.fpo L m)
  have hLb : New Hb L := r1.sb.free hLz (.of hL)
  have hLow : L ∉ ow := r1.gr.no (.of hL)
  have r2 : Rel CL Z X.K ow0 Hb (hid ow H1) ρ σ (upd H1 L (.lst [])) (L :: ow) := r1.more (SameBut.new hL) (z.le (Le.new hL)) (.of hL) ⟨_, nt_lst, upd_same⟩
  -- between two turns
  refine ⟨fun i m H => m = ds.length - i ∧ i ≤ ds.length ∧ ∃ acc us, lcW b tt we (wipeE ρ vs) (fun acc => P (.own acc)) (ds.drop i) acc ∧ acc.length ≤ i ∧ H L = some (.lst us) ∧ DtAll X.K (hid (L :: ow) H) us acc ∧ Rel CL Z X.K ow0 Hb (hid ow H1) ρ σ H (L :: ow) ∧ SameBut (fp Z) H1 H, ⟨ds.length, by simp, Nat.zero_le _, [], [], p, Nat.le_refl _, upd_same, .nil, r2, SameBut.new hL⟩, ?_⟩
  rintro i m H2 ⟨rfl, hi2, acc, us, p2, hacc, hL2, ha2, r3, sb2⟩
  have le : Le (hid ow H1) H2 := r3.mark.trans hid_le
  have nos : ∀ {ρ' : Ev} {σ' : L2.St} {H' : Hp}, Rel CL Z X.K ow0 Hb (hid ow H1) ρ' σ' H' (L :: ow) → True := fun _ => True.intro
  by_cases hlt : i < ds.length
  · refine .inr ⟨hJ.go i H2 le hlt, fun H => ∃ acc us, lcW b tt we (wipeE ρ vs) (fun acc => P (.own acc)) (ds.drop (i + 1)) acc ∧ acc.length ≤ i + 1 ∧ H L = some (.lst us) ∧ DtAll X.K (hid (L :: ow) H) us acc ∧ Rel CL Z X.K ow0 Hb (hid ow H1) ρ σ H (L :: ow) ∧ SameBut (fp Z) H1 H, fun H' q => ⟨ds.length - (i + 1), by omega, rfl, hlt, q⟩, fun x H' y => ?_⟩
    have hd : ds[i]? = some ds[i] := by simp [hlt]
    obtain ⟨l1, l2⟩ := hJ.yld i H2 x H' (L :: ow) _ r3.gr.isS r3.mark hd y
    rw [List.drop_eq_getElem_cons hlt] at p2
    have r4 := r3.step (.of_le l1) (r3.gr.ext.le l1)
    refine hg (r4.wiped vs) l2 p2 fun ρ5 σ5 p5 r5 o5 => ⟨by rw [(o5.1.mono his).wipe, wipe_wipe], ?_⟩
    refine ht r5 p5 fun c H6 p6 e6 z6 => ?_
    have r6 := r4.step e6 z6
    have hL6 : H6 L = some (.lst us) := e6 L _ hLz nt_lst (l1 _ _ hL2)
    have ha6 : DtAll X.K (hid (L :: ow) H6) us acc := DtAll.mono (hid_mono e6 r4.gr.fpo fun _ m => .inl m) (DtAll.mono (hid_mono (SameBut.of_le l1) r3.gr.fpo fun _ m => .inl m) ha2)
    have sb6 : SameBut (fp Z) H1 H6 := sb2.trans ((SameBut.of_le l1).trans e6)
    cases c with
    | false =>
      rw [if_neg (by decide)] at p6 ⊢
      exact ⟨acc, us, p6, Nat.le_succ_of_le hacc, hL6, ha6, r6, sb6⟩
    | true =>
      rw [if_pos rfl] at p6 ⊢
      refine he (r5.step e6 z6) p6 fun v y H7 p7 e7 z7 q7 => ?_
      split at p7
      · rename_i e8 ed
        have hL7 : H7 L = some (.lst us) := e7 L _ hLz nt_lst hL6
        have ha7 : DtAll X.K (hid (L :: ow) H7) us acc := DtAll.mono (hid_mono e7 r6.gr.fpo fun _ m => .inl m) ha6
        have r7 := r6.step e7 z7
        refine ⟨us, hL7, ?_, acc ++ [e8], us ++ [y], p7, by simp; omega, upd_same, ?_, ?_, fun a u n t q => ?_⟩
        · rw [ha7.length]
          omega
        · rw [hid_upd List.mem_cons_self]
          exact ha7.append (.cons (q7.kp ed) .nil)
        · refine r7.put hL7 List.mem_cons_self hLz hLb fun j as hj hσ => ?_
          obtain ⟨w1, w2, t, ts, et, t0, t1, t2, t3, t4⟩ := r.val j _ hj
          rw [hσ] at w2
          cases w2
          cases et
          have : H1 L = some (.lst ts) := e L _ hLz nt_lst t3
          rw [hL] at this
          cases this
        · have ne : a ≠ L := fun e => by rw [e, hL] at q; cases q
          rw [upd_ne ne]
          exact e7 a u n t (sb6 a u n t q)
      · exact p7.elim
  · have ei : i = ds.length := by omega
    subst ei
    rw [List.drop_length] at p2
    refine .inl ⟨hJ.stop H2 le, ?_⟩
    refine gd (.own acc) _ H2 p2 (e.trans sb2) r3.gr.ext ⟨L, us, rfl, e.free hLz (.of hL), hLow, hL2, ha2⟩
end
end Pd

/-! Pd8: comprehensions, lists that grow, raise, promises of defs, calls. -/
namespace Pd
open PySem PySem.Spec PyProof.Rows L2
section
variable {X : Cx} {W : WX} {Z : Ext} {CL : Calls} {ow0 : List Addr} {Hb : Hp}
/-- what holds in every block of X -/
def InBlk (X : Cx) (scope : Scope) (p : Cx → Prop) : Prop := ∀ (s : Shared) (H : Hp) (C : Addr) (cl : List (Str × Addr)) (fp : List Addr), p (X.blk s H scope (compEnvC scope cl C X.env) fp)
theorem lc_parts {tg iter elt : Expr} {ifs : List Expr} {scope : Scope} {own : List (Str × Nat)} {b : WB} {is : List Nat} {tt : WT} {we : WE}
    (hg : InBlk X scope fun Y => SimB Y Z CL ow0 Hb tg b is) (ht : InBlk X scope fun Y => SimTs Y W0 Z CL ow0 Hb ifs tt) (he : InBlk X scope fun Y => SimE Y W0 Z CL ow0 Hb elt we) (hi : SimI X W Z CL ow0 Hb tg iter wi) (his : ∀ i ∈ is, i ∈ own.map (·.2)) (g0 : Gr Z ow0 Hb)
    {S : Hp} {ρ : Ev} {σ : L2.St} {H : Hp} {ow : List Addr} {P : Val → Prop} {Ex : Xn → Prop} {Q : VK} (r : Rel CL Z X.K ow0 Hb S ρ σ H ow) (w : wLc wi b tt we (own.map (·.2)) ρ P Ex) (gd : Gd CL Z X.K ow H P Q) (bd : Bd Z X.K ow X.mg W σ H Ex) :
    tLc (fun σ H R => PIat X tg iter σ H fun J H' => Held X H' → R J H') (fun v σ H Q => InBlk X scope fun Y => PGat Y tg v σ H Q) (fun σ H Q => InBlk X scope fun Y => PTsat Y ifs σ H Q) (fun σ H Q => InBlk X scope fun Y => PEat Y elt σ H Q) (own.map (·.2)) σ H Q := by
  refine lc_sound (X := X) (W := W) (Z := Z) (CL := CL) (ow0 := ow0) (Hb := Hb) (elt := elt) (ifs := ifs) (scope := scope) hi his g0 (fun r h w g s H C cl fp => ?_) (fun r w g s H C cl fp => ?_) (fun r w g s H C cl fp => ?_) r w gd bd
  · exact hg s H C cl fp _ _ _ _ _ _ _ _ _ r h w g
  · exact ht s H C cl fp _ _ _ _ _ _ _ _ r w g fun _ _ _ _ z => z.elim
  · exact he s H C cl fp _ _ _ _ _ _ _ _ r w g fun _ _ _ _ z => z.elim
theorem sim_lc {tg iter elt : Expr} {ifs : List Expr} {scope : Scope} {own : List (Str × Nat)} {pos : Pos} {wi : WI} {b : WB} {is : List Nat} {tt : WT} {we : WE} (hc : X.calm = true) (hN : X.N.Nodup) (g0 : Gr Z ow0 Hb) (hi : SimI X W Z CL ow0 Hb tg iter wi) (ok : BlkOk X.N X.env.scope scope own) (his : ∀ i ∈ is, i ∈ own.map (·.2))
    (hg : InBlk X scope fun Y => SimB Y Z CL ow0 Hb tg b is) (ht : InBlk X scope fun Y => SimTs Y W0 Z CL ow0 Hb ifs tt) (he : InBlk X scope fun Y => SimE Y W0 Z CL ow0 Hb elt we)
    (hs : ∀ x, foldedSetIterable iter X.env x = pure x := by intro _; rfl) : SimE X W Z CL ow0 Hb (.ListComp elt [⟨tg, iter, ifs, 0⟩] scope pos) (wLc wi b tt we (own.map (·.2))) := by
  intro S ρ σ H ow P Ex Q r w g bd
  refine PEat.of (pe_lc (g := fun v σ H Q => InBlk X scope fun Y => PGat Y tg v σ H Q) (tt := fun σ H Q => InBlk X scope fun Y => PTsat Y ifs σ H Q) (te := fun σ H Q => InBlk X scope fun Y => PEat Y elt σ H Q) hc hN PIat.pi ok (fun s H C cl fp => ⟨fun pins s' σ H' v u Q I rv h => (h s H C cl fp).go pins s' u I rv⟩) (fun s H C cl fp => ⟨fun pins s' σ H' Q I h => (h s H C cl fp).go pins s' I⟩) (fun s H C cl fp => ⟨fun pins s' σ H' Q I h => (h s H C cl fp).go pins s' I⟩) hs) ?_
  exact lc_parts hg ht he hi his g0 r w g bd
end
end Pd

/-! Pd9: methods of owned lists. -/
namespace Pd
open PySem PySem.Spec PyProof.Rows L2
section
variable {X : Cx} {W : WX} {Z : Ext} {CL : Calls} {ow0 : List Addr} {Hb : Hp}
theorem getSet {α : Type} {l : List α} {i j : Nat} {a b : α} (h : (l.set i a)[j]? = some b) : (j = i ∧ b = a ∧ i < l.length) ∨ (j ≠ i ∧ l[j]? = some b) := by
  by_cases e : j = i
  · subst e
    by_cases hl : j < l.length
    · rw [List.getElem?_set_self hl] at h
      exact .inl ⟨rfl, (Option.some.inj h).symm, hl⟩
    · rw [List.getElem?_eq_none (by simpa using hl)] at h; cases h
  · rw [List.getElem?_set_ne (Ne.symm e)] at h
    exact .inr ⟨e, h⟩
/-- the list of a slot is written -/
theorem Rel.putS {S : Hp} {ρ : Ev} {σ : L2.St} {H : Hp} {ow : List Addr} {p : Addr} {us vs : List V} {i : Nat} {xs ys : List D} (r : Rel CL Z X.K ow0 Hb S ρ σ H ow) (hi : ρ[i]? = some (some (.own xs))) (hσ : σ[i]? = some (some (.ref p))) (hu : H p = some (.lst us)) (ha : DtAll X.K (hid ow H) vs ys) :
    Rel CL Z X.K ow0 Hb S (ρ.set i (some (.own ys))) σ (upd H p (.lst vs)) ow := by
  obtain ⟨v, h1, p', us', e1, hb, hp, hf, h2, h3⟩ := r.val i _ hi
  rw [hσ] at h1
  cases h1
  cases e1
  have same := hid_upd (H := H) (o := .lst vs) hp
  have r' : Rel CL Z X.K ow0 Hb S (ρ.set i none) σ H ow := r.weak (by rw [List.length_set, r.len]) fun j y q => by
    rcases getSet q with ⟨_, z, _⟩ | ⟨_, z⟩
    · cases z
    · exact ⟨z, rfl⟩
  have r2 := r'.put (us := us) (vs := vs) hu hp hf hb fun j as q s => by
    rcases getSet q with ⟨_, z, _⟩ | ⟨n, z⟩
    · cases z
    · exact r.sep j i as xs p n z hi s hσ
  refine ⟨r2.gr, by rw [List.length_set, r.len], r2.sb, r2.sub, r2.mark, fun j y q => ?_, fun j k as bs q nj q1 q2 s1 s2 => ?_⟩
  · rcases getSet q with ⟨rfl, z, _⟩ | ⟨n, z⟩
    · cases z
      exact ⟨_, hσ, p, vs, rfl, hb, hp, hf, upd_same, by rw [same]; exact ha⟩
    · exact r2.val j y (by rw [List.getElem?_set_ne (Ne.symm n)]; exact z)
  · have un : ∀ {j : Nat} {as : List D}, (ρ.set i (some (.own ys)))[j]? = some (some (.own as)) → ∃ cs, ρ[j]? = some (some (.own cs)) := fun {j as} q => by
      rcases getSet q with ⟨rfl, _, _⟩ | ⟨_, z⟩
      · exact ⟨xs, hi⟩
      · exact ⟨as, z⟩
    obtain ⟨cs, q1⟩ := un q1
    obtain ⟨cs', q2⟩ := un q2
    exact r.sep j k _ _ q nj q1 q2 s1 s2

abbrev OpM := List D → List D → (List D → Prop) → Prop
def wMt (i : Nat) (op : OpM) (w : WA) : WS := fun E ρ => match ρ[i]? with
  | some (some (.own xs)) => w ρ (fun ys => match keeps ys with
    | some ds => op xs ds fun zs => E.nx (ρ.set i (some (.own zs)))
    | none => False) (fun x => E.ex x ρ)
  | _ => False
/-- what a method does of data -/
def MOk (K : PySem.W.Frag) (r : V → List V → Hp → VK → Prop) (op : OpM) : Prop := ∀ (ow : List Addr) (H : Hp) (l : Addr) (vs us : List V) (xs ds : List D) (P : List D → Prop) (Q : VK), l ∈ ow → H l = some (.lst vs) → DtAll K (hid ow H) vs xs → DtAll K (hid ow H) us ds → op xs ds P →
  (∀ zs ws, P zs → DtAll K (hid ow H) ws zs → Q .non (upd H l (.lst ws))) → r (.ref l) us H Q
theorem sim_mt {op : OpM} {id : String} {r : V → List V → Hp → VK → Prop} (hm : MtR X id r) (hop : MOk X.K r op) (i : Nat) {x name : Str} {xp apos cpos pos : Pos} {e : Expr} {es : List Expr} {wa : WA} (slot : Slot "list" name id) (hty : typeOf (.builtin id) = pure (.type "method_descriptor")) (ha : SimA X W Z CL ow0 Hb (e :: es) wa)
    (hN : X.N[i]? = some x := by rfl) (hv : Vis X.env.scope x := by first | exact Or.inl rfl | exact Or.inr (Or.inl rfl) | exact Or.inr (Or.inr rfl)) (hd : (x == ("__debug__" : Str)) = false := by decide) (hcd : (x == ("__classdict__" : Str)) = false := by decide)
    (hbase : attributeBase (.Name x xp) name X.env (eval (.Name x xp) X.env) = eval (.Name x xp) X.env := by rfl)
    (hfew : ((backTo cpos (starEach (e :: es) X.env)).all (fun x => !x.1) && (backToKw cpos (keywordEach [] X.env)).all (fun x => x.1.isSome)
      && decide ((e :: es).length + ([] : List Keyword).length + (if ([] : List Keyword).isEmpty then 0 else 1) < 30)) = true := by rfl)
    (hline : (apos.endLine == cpos.line) = true := by rfl) (hs : starEach (e :: es) X.env = (false, eval e X.env) :: starEach es X.env := by rfl) (hplain : (backTo cpos (starEach es X.env)).any (·.1) = false := by rfl)
    (hsw : swapsWith (.Call (.Attribute (.Name x xp) name apos) (e :: es) [] cpos) none pos.line X.env = pure false := by rfl) :
    SimS X W Z CL ow0 Hb (.Expr (.Call (.Attribute (.Name x xp) name apos) (e :: es) [] cpos) pos) (wMt i op wa) := by
  intro S ρ σ H ow E D rl w o
  unfold wMt at w
  split at w
  · rename_i xs hi
    obtain ⟨v, h1, p, vs, rfl, hb, hp, hf, h2, h3⟩ := rl.val i _ hi
    refine PSat.of (ps_expr (pe_bm PySem.F.plainAttrs_list slot hty hm (pe_var hN hv hd hcd) PAat.pa hbase hfew hline hs hplain) hsw) ?_
    refine ⟨_, h1, Or.inl ⟨rfl, _, Or.inl (Or.inl h2)⟩, ?_⟩
    refine ha S ρ σ H ow _ _ _ rl w (fun ys us H1 p1 e1 z1 q1 => ?_) (o.bd rl)
    split at p1
    · rename_i ds ed
      have r1 := rl.step e1 z1
      have h2' : H1 p = some (.lst vs) := e1 p _ hf nt_lst h2
      have h3' : DtAll X.K (hid ow H1) vs xs := DtAll.mono (hid_mono e1 rl.gr.fpo fun _ m => .inl m) h3
      exact hop ow H1 p vs us xs ds _ _ hp h2' h3' (q1.keeps ed) p1 fun zs ws pz hz => o.nx _ σ _ ow pz (r1.putS hi h1 h2' hz)
    · exact p1.elim
  · exact w.elim
def mAppend : OpM := fun xs ds P => match ds with
  | [d] => xs.length < sizeLine ∧ P (xs ++ [d])
  | _ => False
theorem mo_append {K : PySem.W.Frag} : MOk K rAppend mAppend := by
  intro ow H l vs us xs ds P Q hl hv ha hu w q
  unfold mAppend at w
  split at w
  · cases hu with
    | cons h t =>
      cases t
      exact ⟨l, vs, _, rfl, rfl, hv, by rw [ha.length]; exact w.1, q _ _ w.2 (ha.append (.cons h .nil))⟩
  · exact w.elim
def mInsert : OpM := fun xs ds P => match ds with
  | [.int i, d] => (xs.length < sizeLine ∧ 0 ≤ i ∧ i < 2 ^ 63) ∧ P (xs.take i.toNat ++ [d] ++ xs.drop i.toNat)
  | _ => False
theorem mo_insert {K : PySem.W.Frag} : MOk K (fun x vs H Q => ∃ (l : Addr) (xs : List V) (i : Int) (y : V), x = .ref l ∧ vs = [.int i, y] ∧ H l = some (.lst xs) ∧ xs.length < sizeLine ∧ 0 ≤ i ∧ i < 2 ^ 63 ∧
    Q .non (upd H l (.lst (xs.take i.toNat ++ [y] ++ xs.drop i.toNat)))) mInsert := by
  intro ow H l vs us xs ds P Q hl hv ha hu w q
  unfold mInsert at w
  split at w
  · cases hu with
    | cons h t =>
      cases t with
      | cons h2 t2 =>
        cases t2
        cases h
        exact ⟨l, vs, _, _, rfl, rfl, hv, by rw [ha.length]; exact w.1.1, w.1.2.1, w.1.2.2, q _ _ w.2 (((ha.take _).append (.cons h2 .nil)).append (ha.drop _))⟩
  · exact w.elim
def mExtend : OpM := fun xs ds P => match ds with
  | [.list ys] => xs.length + ys.length ≤ sizeLine ∧ P (xs ++ ys)
  | _ => False
theorem mo_extend {K : PySem.W.Frag} : MOk K rExtend mExtend := by
  intro ow H l vs us xs ds P Q hl hv ha hu w q
  unfold mExtend at w
  split at w
  · cases hu with
    | cons h t =>
      cases t
      cases h with
      | lst h1 h2 => exact ⟨l, _, vs, _, rfl, rfl, hv, hid_le _ _ h1, by rw [ha.length, h2.length]; exact w.1, q _ _ w.2 (ha.append h2)⟩
  · exact w.elim
/-- from here on the list of a slot is data -/
def wFrz (i : Nat) (w : WS) : WS := fun E ρ => match ρ[i]? with
  | some (some (.own xs)) => w E (ρ.set i (some (.d (.list xs))))
  | _ => False
theorem Rel.frz {S : Hp} {ρ : Ev} {σ : L2.St} {H : Hp} {ow : List Addr} {i : Nat} {xs : List D} (r : Rel CL Z X.K ow0 Hb S ρ σ H ow) (g0 : Gr Z ow0 Hb) (hi : ρ[i]? = some (some (.own xs))) : ∃ ow', Rel CL Z X.K ow0 Hb S (ρ.set i (some (.d (.list xs)))) σ H ow' := by
  obtain ⟨v, h1, p, vs, rfl, hb, hp, hf, h2, h3⟩ := r.val i _ hi
  have less : Le (hid ow H) (hid (ow.filter (· ≠ p)) H) := hid_less fun a m => (List.mem_filter.mp m).1
  refine ⟨ow.filter (· ≠ p), ⟨r.gr.ext, fun a m => List.mem_filter.mpr ⟨r.gr.fpo a m, by simpa using fun e : a = p => hf (e ▸ m)⟩, fun a m => r.gr.isS a (List.mem_filter.mp m).1⟩, by rw [List.length_set, r.len], r.sb,
    fun a m => List.mem_filter.mpr ⟨r.sub a m, by simpa using fun e : a = p => g0.no hb (e ▸ m)⟩, r.mark.trans less, fun j y q => ?_, fun j k as bs q nj q1 q2 s1 s2 => ?_⟩
  · rcases getSet q with ⟨rfl, z, _⟩ | ⟨n, z⟩
    · cases z
      exact ⟨_, h1, .lst (hid_of (fun m => by simpa using (List.mem_filter.mp m).2) h2 nt_lst) (DtAll.mono less h3)⟩
    · obtain ⟨u, u1, u2⟩ := r.val j y z
      refine ⟨u, u1, ?_⟩
      cases y with
      | d x => exact Dt.mono less u2
      | own as =>
        obtain ⟨t, ts, rfl, t0, t1, t2, t3, t4⟩ := u2
        exact ⟨t, ts, rfl, t0, List.mem_filter.mpr ⟨t1, by simpa using fun e : t = p => r.sep j i as xs t n z hi u1 (by rw [e]; exact h1)⟩, t2, t3, DtAll.mono less t4⟩
      | bor as => exact u2
      | bag => exact u2
      | fn f φ => exact u2
  · have un : ∀ {j : Nat} {as : List D}, (ρ.set i (some (.d (.list xs))))[j]? = some (some (.own as)) → ρ[j]? = some (some (.own as)) := fun {j as} q => by
      rcases getSet q with ⟨rfl, z, _⟩ | ⟨_, z⟩
      · cases z
      · exact z
    exact r.sep j k _ _ q nj (un q1) (un q2) s1 s2
theorem sim_frz (i : Nat) {ss : List Stmt} {w : WS} (g0 : Gr Z ow0 Hb) (h : SimSs X W Z CL ow0 Hb ss w) : SimSs X W Z CL ow0 Hb ss (wFrz i w) := by
  intro S ρ σ H ow E D r w o
  unfold wFrz at w
  split at w
  · rename_i xs hi
    obtain ⟨ow', r'⟩ := r.frz g0 hi
    exact h S _ σ H ow' E D r' w o
  · exact w.elim
end
end Pd

/-! Pd10: promises of defs, calls, callables, raise. -/
namespace Pd
open PySem PySem.Spec PyProof.Rows L2
section
variable (P : Program) (w : World) (K : PySem.W.Frag) (mg : Str → Option Value) (base : Heap)
/-- the thing at f may be called with one argument: of data φ tells -/
structure Clb (kc : Nat) (Z : Ext) (f : Addr) (φ : Fn1) : Prop where
  keeps : PySem.W.keepIn K (.ref f) = true ∨ ∃ ψ, (f, ψ) ∈ Z.fns ∧ ∀ h, ψ h → PySem.W.FnAt f h
  run : ∀ (A : Around) (outer : List Env) (s : Shared) (H : Hp) (ow : List Addr) (u : Value) (v : V) (d : D) (R : D → Prop) (Q : VK) (E : XK), Room kc A → Env0 P w K mg base A outer s H → Gr Z ow H → RelV v u → Dt K (hid ow H) v d → φ d R →
    (∀ x v' H', R x → SameBut (fp Z) H H' → RZ Z H' → Dt K (hid ow H') v' x → Q v' H') → codeAny (model P w) A (.call (.ref f) ⟨[u], []⟩) (CR (L2.CX P w) outer P w H s Q E) s
abbrev Fs := List Val → (Val → Prop) → (Xn → Prop) → Prop
/-- as an argument is handed in -/
def argOk : Val → Bool
  | .d _ => true
  | .bag => true
  | .fn _ _ => true
  | _ => false
/-- the promise of a def of n parameters -/
def spW (TT : List (Addr × Str)) (kc n : Nat) (Φ : Fs) : Sp := fun vs H Q E => vs.length = n ∧ ∃ (Z : Ext) (ow : List Addr) (_ : Z.tabs = TT) (ys : List Val) (R : Val → Prop) (Ex : Xn → Prop), Gr Z ow H ∧ RVs Z (Clb P w K mg base kc Z) K ow H H vs ys ∧ ys.all argOk = true ∧ Φ ys R Ex ∧
  Gd (Clb P w K mg base kc Z) Z K ow H R Q ∧ ∀ x cls d H', Ex x → ExR K ow mg x cls d H' → SameBut (fp Z) H H' → RZ Z H' → E cls d H'
end
section
variable {P : Program} {w : World} {K : PySem.W.Frag} {mg : Str → Option Value} {base : Heap} {TT : List (Addr × Str)} {kc : Nat}
/-- the slots at a body's beginning -/
def start0 (N : List Str) (ys : List Val) : Ev := ys.map some ++ List.replicate (N.length - ys.length) none
theorem rvs_get {CL : Calls} {Z : Ext} {ow : List Addr} {H0 H : Hp} : ∀ {vs : List V} {ys : List Val} {i : Nat} {y : Val}, RVs Z CL K ow H0 H vs ys → ys[i]? = some y → ∃ v, vs[i]? = some v ∧ RV CL Z K ow H0 H v y
  | _, _, _, _, .nil, e => by simp at e
  | _, _, 0, _, .cons h _, e => by simp at e; subst e; exact ⟨_, rfl, h⟩
  | _, _, i + 1, _, .cons _ t, e => by
    obtain ⟨v, h1, h2⟩ := rvs_get (i := i) t (by simpa using e)
    exact ⟨v, by simpa using h1, h2⟩
theorem rel_start {CL : Calls} {Z : Ext} {ow : List Addr} {H : Hp} {N : List Str} {vs : List V} {ys : List Val} (gr : Gr Z ow H) (h : RVs Z CL K ow H H vs ys) (ha : ys.all argOk = true) : Rel CL Z K ow H (hid ow H) (start0 N ys) (L2.start N vs) H ow := by
  have hl := h.length
  have here : ∀ {i : Nat} {y : Val}, (start0 N ys)[i]? = some (some y) → ys[i]? = some y := fun {i y} e => by
    unfold start0 at e
    by_cases hi : i < ys.length
    · rw [List.getElem?_append_left (by simpa using hi), List.getElem?_map] at e
      cases q : ys[i]? with
      | none => rw [q] at e; cases e
      | some z => rw [q] at e; cases e; rfl
    · rw [List.getElem?_append_right (by simpa using hi), List.getElem?_replicate] at e
      split at e <;> cases e
  have ok : ∀ {y : Val}, y ∈ ys → argOk y = true := fun m => List.all_eq_true.mp ha _ m
  refine ⟨gr, ?_, .refl _ _, fun _ m => m, .refl _, fun i y e => ?_, fun i j xs zs p n e1 e2 _ _ => ?_⟩
  · unfold start0 L2.start
    simp [hl]
  · have e := here e
    obtain ⟨v, h1, h2⟩ := rvs_get h e
    have o := ok (List.mem_of_getElem? e)
    refine ⟨v, ?_, ?_⟩
    · have hi : i < vs.length := (List.getElem?_eq_some_iff.mp h1).1
      unfold L2.start
      rw [List.getElem?_append_left (by simpa using hi), List.getElem?_map, h1]
      rfl
    · cases y with
      | d x => exact h2
      | own xs => cases o
      | bor xs => cases o
      | bag => exact h2
      | fn f φ => exact h2
  · have o := ok (List.mem_of_getElem? (here e1))
    cases o
/-- what a body's run is to do -/
def endW (R : Val → Prop) (Ex : Xn → Prop) : En := { nx := fun _ => R (.d .none), rt := R, ex := fun x _ => Ex x }
/-- a def by its body -/
theorem fn_W {x qual : Str} {st : Stmt} {f : Addr} {fd : FuncData} {N ps : List Str} {k : Nat} {Φ : Fs} {wb : WS} (F : Fun K x qual st f fd) (S : FnScope N ps (defScope st))
    (hbody : ∀ (cdv : Value) (A : Around) (outer : List Env) (s : Shared) (H : Hp) (E : XK) (Z : Ext) (ow : List Addr), Room k (A.deeper (envOfC qual (defScope st) s.heap.objs.size f cdv)) → PySem.W.codeIn K cdv qual = true → Z.tabs = TT → Gr Z ow H →
      SimSs (cxOf (L2.CX P w) P w K mg base N qual (defScope st) f cdv A outer s H E) (fun cls d _ H' => E cls d H') Z (Clb P w K mg base kc Z) ow H (defBody st) wb)
    (hv : ∀ ys R Ex, ys.length = ps.length → ys.all argOk = true → Φ ys R Ex → wb (endW R Ex) (start0 N ys)) : FnOk P w K mg base (L2.CX P w) (k + 1) f fd ps (spW P w K mg base TT kc ps.length Φ) := by
  obtain ⟨oc, od, kV, doc, pm, an, cdv, ct, osl, rfl, lk, hcd⟩ := F.ex
  refine fn_of lk hcd S (fun vs H Q E h => h.1) fun A outer s H vs Q E hr h => ?_
  obtain ⟨hl, Z, ow, hT, ys, R, Ex, gr, hy, ha, hΦ, hQ, hE⟩ := h
  refine ⟨_, PSsat.ps, ?_⟩
  refine hbody cdv A outer s H E Z ow hr hcd hT gr (hid ow H) (start0 N ys) _ H ow (endW R Ex) _ (rel_start gr hy ha) (hv ys R Ex (by rw [← hy.length]; exact hl) ha hΦ) ⟨fun ρ σ H' ow' p r => ?_, fun _ _ _ _ p _ => p.elim, fun _ _ _ _ p _ => p.elim, fun y v H' p e z h => hQ y v H' p e z h, fun x ρ σ H' ow' cls d p r er => ?_⟩
  · exact hQ (.d .none) .non H' p r.sb r.gr.ext .non
  · refine hE x cls d H' p ⟨er.1, fun n => ?_⟩ r.sb r.gr.ext
    obtain ⟨dx, fs, h1, h2, h3, h4⟩ := er.2 n
    exact ⟨dx, fs, h1, h2, h3, DtAll.mono (hid_less r.sub) h4⟩
end
/-! ### calls -/
/-- as an argument of a call -/
def toArg : Val → Option Val
  | .d x => some (.d x)
  | .own xs => some (.d (.list xs))
  | .bor _ => none
  | .bag => some .bag
  | .fn f φ => some (.fn f φ)
def toArgs : List Val → Option (List Val)
  | [] => some []
  | y :: ys => match toArg y, toArgs ys with
    | some a, some as => some (a :: as)
    | _, _ => none
section
variable {X : Cx} {W : WX} {Z : Ext} {CL : Calls} {ow0 : List Addr} {Hb : Hp} {TT : List (Addr × Str)} {kc : Nat}
theorem RV.arg {K : PySem.W.Frag} {ow : List Addr} {H0 H : Hp} {v : V} {y a : Val} (h : RV CL Z K ow H0 H v y) (e : toArg y = some a) : RV CL Z K ow H H v a ∧ argOk a = true := by
  cases y with
  | d x => cases e; exact ⟨h, rfl⟩
  | own xs => cases e; exact ⟨h.kp rfl, rfl⟩
  | bor xs => cases e
  | bag => cases e; exact ⟨h, rfl⟩
  | fn f φ => cases e; exact ⟨h, rfl⟩
theorem RVs.args {K : PySem.W.Frag} {ow : List Addr} {H0 H : Hp} : ∀ {vs : List V} {ys as : List Val}, RVs Z CL K ow H0 H vs ys → toArgs ys = some as → RVs Z CL K ow H H vs as ∧ as.all argOk = true ∧ as.length = ys.length
  | _, _, _, .nil, e => by cases e; exact ⟨.nil, rfl, rfl⟩
  | _, _ :: ys, as, .cons (y := y) h t, e => by
    unfold toArgs at e
    cases e1 : toArg y with
    | none => rw [e1] at e; cases e
    | some a =>
      cases e2 : toArgs ys with
      | none => rw [e1, e2] at e; cases e
      | some bs =>
        rw [e1, e2] at e
        cases e
        obtain ⟨h1, h2⟩ := h.arg e1
        obtain ⟨t1, t2, t3⟩ := RVs.args t e2
        exact ⟨.cons h1 t1, by simp [h2, t2], by simp [t3]⟩
/-- a def's call -/
def wCall (n : Nat) (Φ : Fs) (w : WA) : WE := fun ρ P Ex => w ρ (fun ys => match toArgs ys with
  | some as => as.length = n ∧ Φ as P Ex
  | none => False) Ex
theorem sim_call {k : Nat} {f : Addr} {fd : FuncData} {ps : List Str} {Φ : Fs} {x : Str} {p pos : Pos} {e : Expr} {es : List Expr} {wa : WA} (F : FnOk X.prog X.w X.K X.mg X.base (L2.CX X.prog X.w) k f fd ps (spW X.prog X.w X.K X.mg X.base TT kc ps.length Φ)) (hT : Z.tabs = TT) (hr : Room k X.A) (tk : Takes X W) (hg : Gl X x)
    (hm : X.mg x = some (.ref f)) (hk : PySem.W.keepIn X.K (.ref f) = true) (hb : Binds X.K fd ps []) (ha : SimA X W Z (Clb X.prog X.w X.K X.mg X.base kc Z) ow0 Hb (e :: es) wa)
    (hdb : (x == ("__debug__" : Str)) = false := by decide) (he : starEach (e :: es) X.env = (false, eval e X.env) :: starEach es X.env := by rfl) (hpl : (backTo pos (starEach es X.env)).any (·.1) = false := by rfl) :
    SimE X W Z (Clb X.prog X.w X.K X.mg X.base kc Z) ow0 Hb (.Call (.Name x p) (e :: es) [] pos) (wCall ps.length Φ wa) := by
  intro S ρ σ H ow R Ex Q r wq g b
  refine PEat.of (pe_callSD (E := L2.WE W) F hr hg hm hk hb .nil (passAt tk) PAat.pa hdb he hpl) ?_
  refine ha S ρ σ H ow _ _ _ r wq (fun ys vs H1 p1 e1 z1 h1 => ?_) b
  split at p1
  · rename_i as ea
    obtain ⟨hl, hΦ⟩ := p1
    obtain ⟨q1, q2, q3⟩ := h1.args ea
    rw [List.append_nil]
    refine ⟨by rw [h1.length, ← q3]; exact hl, Z, ow, hT, as, R, Ex, r.gr.step e1 z1, q1, q2, hΦ, g.step e1 r.gr.fpo, fun x cls d H' ex er s z => b x cls d H' ex er (e1.trans s) z⟩
  · exact p1.elim
/-- the name of a def, handed on as a callable -/
def wFn (f : Addr) (φ : Fn1) : WE := fun _ P _ => P (.fn f φ)
theorem sim_fn {f : Addr} {φ : Fn1} {x : Str} {pos : Pos} (hg : Gl X x) (hm : X.mg x = some (.ref f)) (hc : CL f φ) (hdb : (x == ("__debug__" : Str)) = false := by decide) : SimE X W Z CL ow0 Hb (.Name x pos) (wFn f φ) :=
  fun S ρ σ H ow P Ex Q r w g b => PEat.of (pe_glob (v := .ref f) hg hm rfl hdb) (g _ _ H w (.refl _ _) r.gr.ext ⟨rfl, hc⟩)
/-- a def as a callable -/
theorem Clb.ofFn {P : Program} {w : World} {K : PySem.W.Frag} {mg : Str → Option Value} {base : Heap} {k : Nat} {f : Addr} {fd : FuncData} {p : Str} {Φ : Fs} {φ : Fn1} (F : FnOk P w K mg base (L2.CX P w) k f fd [p] (spW P w K mg base TT kc 1 Φ)) (hT : Z.tabs = TT) (hk : k ≤ kc) (hkp : PySem.W.keepIn K (.ref f) = true) (hb : Binds K fd [p] [])
    (hφ : ∀ d R, φ d R → Φ [.d d] (fun y => match y with
      | .d x => R x
      | _ => False) (fun _ => False)) : Clb P w K mg base kc Z f φ := by
  refine ⟨.inl hkp, fun A outer s H ow u v d R Q E hr e0 gr rv hd hp hQ => ?_⟩
  have kin : K.In s.heap := e0.mod.kin.keeps fun b o e => (e0.bs b o e).1
  have b := hb s [u] kin rfl
  rw [List.append_nil] at b
  refine F.run A outer s H ⟨[u], []⟩ [u] [v] Q E (hr.mono hk) e0 b (.cons rv .nil) ⟨rfl, Z, ow, hT, [.d d], _, fun _ => False, gr, .cons hd .nil, rfl, hφ d R hp, fun y v' H' p e z h => ?_, fun _ _ _ _ z => z.elim⟩
  cases y with
  | d x => exact hQ x v' H' p e z h
  | own xs => exact (p : False).elim
  | bor xs => exact (p : False).elim
  | bag => exact (p : False).elim
  | fn f φ => exact (p : False).elim
/-- a call of what a slot holds -/
def wCallV (i : Nat) (w : WE) : WE := fun ρ P Ex => match ρ[i]? with
  | some (some (.fn f φ)) => w ρ (fun y => match y.kp with
    | some d => φ d fun x => P (.d x)
    | none => False) Ex
  | _ => False
theorem sim_callV (i : Nat) {x : Str} {p pos : Pos} {e : Expr} {we : WE} (hr : Room kc X.A) (h : SimE X W Z (Clb X.prog X.w X.K X.mg X.base kc Z) ow0 Hb e we) (tk : Takes X W) (hN : X.N[i]? = some x := by rfl) (hv : Vis X.env.scope x := by first | exact Or.inl rfl | exact Or.inr (Or.inl rfl) | exact Or.inr (Or.inr rfl))
    (hdb : (x == ("__debug__" : Str)) = false := by decide) (hcd : (x == ("__classdict__" : Str)) = false := by decide)
    (he : starEach [e] X.env = (false, eval e X.env) :: starEach [] X.env := by rfl) (hpl : (backTo pos (starEach [] X.env)).any (·.1) = false := by rfl) : SimE X W Z (Clb X.prog X.w X.K X.mg X.base kc Z) ow0 Hb (.Call (.Name x p) [e] [] pos) (wCallV i we) := by
  intro S ρ σ H ow R Ex Q r w g b
  unfold wCallV at w
  split at w
  · rename_i f φ hy
    obtain ⟨v, h1, rfl, hc⟩ := r.val i _ hy
    refine ⟨fun pins s I => ?_⟩
    refine wpAny_Call_Name_kw (thn ((pe_var (pos := p) hN hv hdb hcd).run pins s σ H (fun v H1 => v = .ref f ∧ H1 = H) I ⟨.ref f, h1, rfl, rfl⟩) fun u s1 ⟨v, H1, I1, r1, q1⟩ => ?_)
    obtain ⟨rfl, rfl⟩ := q1
    cases r1
    have fin : ∀ (us : List Value) (s2 : Shared) (vs : List V) (H2 : Hp), Inv X pins σ H2 s2 → Vals vs us → (∃ v y d, vs = [v] ∧ RV (Clb X.prog X.w X.K X.mg X.base kc Z) Z X.K ow H1 H2 v y ∧ y.kp = some d ∧ (φ d fun x => R (.d x)) ∧ SameBut (fp Z) H1 H2 ∧ RZ Z H2) →
        wpAny (model X.prog X.w) X.A (call (.ref f) us) (EP X pins σ Q) X.xe s2 := fun us s2 vs H2 I2 rv ⟨v, y, d, ev, hv, hk, hφ, e2, z2⟩ => by
      subst ev
      obtain ⟨u, rfl, ru⟩ := rv.one
      refine wpAny_call (codeAny_mono (hc.run X.A X.stack s2 H2 ow u v d _ Q (L2.WE W σ) hr I2.env0 (r.gr.step e2 z2) ru (hv.kp hk) hφ fun x v' H' px e' z' h' => g (.d x) v' H' px (e2.trans e') z' h') fun r s' hq => ?_)
      cases r with
      | error e => exact passAt tk σ pins H2 s2 e s' I2 hq
      | ok fl =>
        cases fl with
        | ret u => exact I2.after hq
        | next => exact False.elim hq
        | brk => exact False.elim hq
        | cont => exact False.elim hq
    have harg : PAat X [e] σ H1 fun vs H2 => ∃ v y d, vs = [v] ∧ RV (Clb X.prog X.w X.K X.mg X.base kc Z) Z X.K ow H1 H2 v y ∧ y.kp = some d ∧ (φ d fun x => R (.d x)) ∧ SameBut (fp Z) H1 H2 ∧ RZ Z H2 := by
      refine PAat.of (pa_cons PEat.pe pa_nil he) (h S ρ σ H1 ow _ Ex _ r w (fun y v H2 p2 e2 z2 h2 => ?_) b)
      split at p2
      · rename_i d ed
        exact ⟨v, y, d, rfl, h2, ed, p2, e2, z2⟩
      · exact p2.elim
    rcases hc.keeps with hk | ⟨ψ, hF, hψ⟩
    · exact PySem.W.callWith_K (h₀ := X.base) I1.ok.mod.kin hk (thn (harg.go pos pins s1 I1) fun us s2 ⟨vs, H2, I2, rv, q⟩ => ⟨I2.kIn, fin us s2 vs H2 I2 rv q⟩) he hpl
    · have at_ : ∀ {H2 : Hp} {s2 : Shared}, Inv X pins σ H2 s2 → RZ Z H2 → PySem.W.FnAt f s2.heap := fun {H2 s2} I2 z2 => by
        obtain ⟨q, _⟩ := I2.hok f _ (z2.fns _ hF)
        exact hψ _ q
      exact PySem.W.callWith_F (at_ I1 r.gr.ext) (thn (harg.go pos pins s1 I1) fun us s2 ⟨vs, H2, I2, rv, q⟩ => ⟨at_ I2 q.choose_spec.choose_spec.choose_spec.2.2.2.2.2, fin us s2 vs H2 I2 rv q⟩) he hpl
  · exact w.elim
end
end Pd

/-! Pd11: defs that are entered with nothing being shown; an own exception without arguments raised. -/
namespace Pd
open PySem PySem.Spec PyProof.Rows L2
/-- a def's promise where no text is being made around the call -/
structure GnOk (P : Program) (w : World) (K : PySem.W.Frag) (mg : Str → Option Value) (base : Heap) (k : Nat) (f : Addr) (fd : FuncData) (ps : List Str) (sp : Sp) : Prop where
  len : ∀ vs H Q E, sp vs H Q E → vs.length = ps.length
  run : ∀ (A : Around) (outer : List Env) (s : Shared) (H : Hp) (args : Args) (us : List Value) (vs : List V) (Q : VK) (E : XK), A.guards = some [] → Room k A → Env0 P w K mg base A outer s H → BindsTo s fd args (ps.zip us) → Vals vs us → sp vs H Q E →
    codeAny (model P w) A (.call (.ref f) args) (CR (L2.CX P w) outer P w H s Q E) s
section
variable {P : Program} {w : World} {K : PySem.W.Frag} {mg : Str → Option Value} {base : Heap} {TT : List (Addr × Str)} {kc : Nat}
theorem GnOk.of {k : Nat} {f : Addr} {fd : FuncData} {ps : List Str} {sp : Sp} (F : FnOk P w K mg base (L2.CX P w) k f fd ps sp) : GnOk P w K mg base k f fd ps sp := ⟨F.len, fun A outer s H args us vs Q E _ hr e0 hb rv h => F.run A outer s H args us vs Q E hr e0 hb rv h⟩
theorem gn_raw {x qual : Str} {st : Stmt} {f : Addr} {fd : FuncData} {N ps : List Str} {k : Nat} {sp : Sp} (F : Fun K x qual st f fd) (S : FnScope N ps (defScope st)) (len : ∀ vs H Q E, sp vs H Q E → vs.length = ps.length)
    (hbody : ∀ (cdv : Value) (A : Around) (outer : List Env) (s : Shared) (H : Hp) (vs : List V) (Q : VK) (E : XK), A.guards = some [] → Room k (A.deeper (envOfC qual (defScope st) s.heap.objs.size f cdv)) → PySem.W.codeIn K cdv qual = true → sp vs H Q E →
      ∃ t, PSs (cxOf (L2.CX P w) P w K mg base N qual (defScope st) f cdv A outer s H E) (defBody st) t ∧ t { nx := fun _ H' => Q .non H', rt := Q } (L2.start N vs) H) : GnOk P w K mg base (k + 1) f fd ps sp := by
  obtain ⟨oc, od, kV, doc, pm, an, cdv, ct, osl, rfl, lk, hcd⟩ := F.ex
  exact ⟨len, fun A outer s H args us vs Q E hg hr e0 hb rv h => LamX.run_ofS lk hcd S hr e0 hb rv (len _ _ _ _ h) fun hr' => hbody cdv A outer s H vs Q E hg hr' hcd h⟩
/-- as fn_W -/
theorem gn_W {x qual : Str} {st : Stmt} {f : Addr} {fd : FuncData} {N ps : List Str} {k : Nat} {Φ : Fs} {wb : WS} (F : Fun K x qual st f fd) (S : FnScope N ps (defScope st))
    (hbody : ∀ (cdv : Value) (A : Around) (outer : List Env) (s : Shared) (H : Hp) (E : XK) (Z : Ext) (ow : List Addr), (A.deeper (envOfC qual (defScope st) s.heap.objs.size f cdv)).guards = some [] → Room k (A.deeper (envOfC qual (defScope st) s.heap.objs.size f cdv)) → PySem.W.codeIn K cdv qual = true → Z.tabs = TT → Gr Z ow H →
      SimSs (cxOf (L2.CX P w) P w K mg base N qual (defScope st) f cdv A outer s H E) (fun cls d _ H' => E cls d H') Z (Clb P w K mg base kc Z) ow H (defBody st) wb)
    (hv : ∀ ys R Ex, ys.length = ps.length → ys.all argOk = true → Φ ys R Ex → wb (endW R Ex) (start0 N ys)) : GnOk P w K mg base (k + 1) f fd ps (spW P w K mg base TT kc ps.length Φ) := by
  refine gn_raw F S (fun vs H Q E h => h.1) fun cdv A outer s H vs Q E hg hr hcd h => ?_
  obtain ⟨hl, Z, ow, hT, ys, R, Ex, gr, hy, ha, hΦ, hQ, hE⟩ := h
  refine ⟨_, PSsat.ps, ?_⟩
  refine hbody cdv A outer s H E Z ow hg hr hcd hT gr (hid ow H) (start0 N ys) _ H ow (endW R Ex) _ (rel_start gr hy ha) (hv ys R Ex (by rw [← hy.length]; exact hl) ha hΦ) ⟨fun ρ σ H' ow' p r => ?_, fun _ _ _ _ p _ => p.elim, fun _ _ _ _ p _ => p.elim, fun y v H' p e z h => hQ y v H' p e z h, fun x ρ σ H' ow' cls d p r er => ?_⟩
  · exact hQ (.d .none) .non H' p r.sb r.gr.ext .non
  · refine hE x cls d H' p ⟨er.1, fun n => ?_⟩ r.sb r.gr.ext
    obtain ⟨dx, fs, h1, h2, h3, h4⟩ := er.2 n
    exact ⟨dx, fs, h1, h2, h3, DtAll.mono (hid_less r.sub) h4⟩
end
section
variable {X : Cx} {W : WX} {Z : Ext} {CL : Calls} {ow0 : List Addr} {Hb : Hp} {TT : List (Addr × Str)} {kc : Nat}
theorem sim_callG {k : Nat} {f : Addr} {fd : FuncData} {ps : List Str} {Φ : Fs} {x : Str} {p pos : Pos} {e : Expr} {es : List Expr} {wa : WA} (F : GnOk X.prog X.w X.K X.mg X.base k f fd ps (spW X.prog X.w X.K X.mg X.base TT kc ps.length Φ)) (hT : Z.tabs = TT) (hgd : X.A.guards = some []) (hr : Room k X.A) (tk : Takes X W) (hg : Gl X x)
    (hm : X.mg x = some (.ref f)) (hk : PySem.W.keepIn X.K (.ref f) = true) (hb : Binds X.K fd ps []) (ha : SimA X W Z (Clb X.prog X.w X.K X.mg X.base kc Z) ow0 Hb (e :: es) wa)
    (hdb : (x == ("__debug__" : Str)) = false := by decide) (he : starEach (e :: es) X.env = (false, eval e X.env) :: starEach es X.env := by rfl) (hpl : (backTo pos (starEach es X.env)).any (·.1) = false := by rfl) :
    SimE X W Z (Clb X.prog X.w X.K X.mg X.base kc Z) ow0 Hb (.Call (.Name x p) (e :: es) [] pos) (wCall ps.length Φ wa) := by
  intro S ρ σ H ow R Ex Q r wq g b
  refine ⟨fun pins s I => ?_⟩
  have fin : PAat X (e :: es) σ H fun vs H1 => spW X.prog X.w X.K X.mg X.base TT kc ps.length Φ vs H1 Q (L2.WE W σ) := by
    refine ha S ρ σ H ow _ _ _ r wq (fun ys vs H1 p1 e1 z1 h1 => ?_) b
    split at p1
    · rename_i as ea
      obtain ⟨hl, hΦ⟩ := p1
      obtain ⟨q1, q2, q3⟩ := h1.args ea
      exact ⟨by rw [h1.length, ← q3]; exact hl, Z, ow, hT, as, R, Ex, r.gr.step e1 z1, q1, q2, hΦ, g.step e1 r.gr.fpo, fun x cls d H' ex er s z => b x cls d H' ex er (e1.trans s) z⟩
    · exact p1.elim
  refine wpAny_Call_Name_kw (ld_glob I hg hm ?_ hdb)
  refine PySem.W.callWith_K (h₀ := X.base) I.ok.mod.kin hk (thn (fin.go pos pins s I) fun us s1 ⟨vs, H1, I1, rv, q⟩ => ⟨I1.kIn, ?_⟩) he hpl
  have hl : us.length = ps.length := by rw [← rv.length]; exact F.len _ _ _ _ q
  have b' := hb s1 us I1.kIn (by rw [List.append_nil]; exact hl)
  rw [List.append_nil] at b'
  refine wpAny_call (codeAny_mono (F.run X.A X.stack s1 H1 ⟨us, []⟩ us vs Q (L2.WE W σ) hgd hr I1.env0 b' rv q) fun r s' hq => ?_)
  cases r with
  | error e => exact passAt tk σ pins H1 s1 e s' I1 hq
  | ok fl =>
    cases fl with
    | ret u => exact I1.after hq
    | next => exact False.elim hq
    | brk => exact False.elim hq
    | cont => exact False.elim hq
/-- an own exception without fields of its own -/
structure XCls (K : PySem.W.Frag) (mg : Str → Option Value) (x : Str) : Prop where
  ex : ∃ (C : Addr) (B newId initId : String) (bmB : List Value), ExcBaseFacts B newId initId bmB ∧ PySem.W.excIn K C bmB newId = true ∧ mg x = some (.ref C) ∧ PySem.W.keepIn K (.ref C) = true ∧ PySem.W.subIn K (.ref C) (.type "BaseException") = some true ∧ PySem.W.typeIn K (.ref C) = some (.type "type")
theorem pmk_own0 {C : Addr} {bmB : List Value} {B newId initId : String} {x : Str} {p pos : Pos} (F : ExcBaseFacts B newId initId bmB) (q : PySem.W.excIn X.K C bmB newId = true) (gC : X.mg x = some (.ref C)) (kC : PySem.W.keepIn X.K (.ref C) = true) (r : Raises X (.ref C)) (hg : Gl X x)
    (hdb : (x == ("__debug__" : Str)) = false := by decide) : PMk X (.Call (.Name x p) [] [] pos) (fun _ H Q => Q (.ref C) none H) := by
  intro pins s σ H Q I h
  refine wpAny_Call_Name_kw (ld_glob I hg gC (PySem.W.callWith_K0 I.kIn kC ?_) hdb)
  obtain ⟨bm, N, nm, qn, bs, hdct, sn, sub, ab, col, dd, k0, k1, k2, k3, k5, mN, hC, hN, hni, T⟩ := exc_obj I.kIn q
  exact wpAny_call_exc_subT F T hC hN hni (fun h' e hm => mk_of I hm r h (I.hok.gone hm.new)) (Nat.zero_le _)
/-- raise X() -/
def wRaise0 (x : Str) : WS := fun E ρ => E.ex ⟨x, []⟩ ρ
theorem sim_raise0 {x : Str} {p pos pos' : Pos} (hc : X.calm = true) (tk : Takes X W) (hx : XCls X.K X.mg x) (hg : Gl X x) (hdb : (x == ("__debug__" : Str)) = false := by decide) : SimS X W Z CL ow0 Hb (.Raise (some (.Call (.Name x p) [] [] pos)) none pos') (wRaise0 x) := by
  intro S ρ σ H ow E D r w o
  obtain ⟨C, B, newId, initId, bmB, F, q, gC, kC, h1, h2⟩ := hx.ex
  exact PSat.of (ps_raise hc tk (pmk_own0 F q gC kC (raises_own h1 h2) hg hdb)) (o.ex ⟨x, []⟩ ρ σ H ow (.ref C) none w r ⟨⟨C, gC, rfl⟩, fun n => (n rfl).elim⟩)
end
end Pd

/-! Pd12: a lambda of one parameter that captures nothing, handed to a def. -/
namespace Pd
open PySem PySem.Spec PyProof.Rows L2
/-- what stands at f: the lambda of these words -/
def LamP (f : Addr) (qual : Str) (params : Arguments) (body : Expr) (scope : Scope) (cl : List (Str × Addr)) (c' : Addr) : Heap → Prop := fun h => ∃ pm ctv, h.get? f = some (PySem.W.kla_obj "<lambda>" qual params body scope cl pm c' ctv)
/-- what stands at c: a code object -/
def CdP (c : Addr) (q : Str) : Heap → Prop := match LamX.CodeO c q with
  | .ext φ => φ
  | _ => fun _ => False
section
variable {X : Cx} {pins : List (Addr × Obj)} {σ : L2.St} {H : Hp} {s : Shared}
theorem lam_tracked {qual : Str} {params : Arguments} {body : Expr} {scope : Scope} {cl : List (Str × Addr)} {c' : Addr} {pm ctv : Value} {t' : Nat} (I : Inv X pins σ H s) :
    Inv X pins σ (upd H s.heap.objs.size (.ext (LamP s.heap.objs.size qual params body scope cl c'))) { s with heap := s.heap.push (PySem.W.kla_obj "<lambda>" qual params body scope cl pm c' ctv), toks := t' } := by
  have here : (s.heap.push (PySem.W.kla_obj "<lambda>" qual params body scope cl pm c' ctv)).get? s.heap.objs.size = some (PySem.W.kla_obj "<lambda>" qual params body scope cl pm c' ctv) := Heap.get?_push_size _ rfl
  exact I.laid (fun b u e => Heap.get?_push_of_some _ e) (Nat.le_refl _) ⟨⟨pm, ctv, here⟩, ⟨_, here⟩, fun h1 h2 ⟨pm, ctv, z⟩ st => ⟨pm, ctv, st _ z⟩⟩
/-- a lambda is made, and known from then on -/
theorem lam_made {T : List (Addr × Str)} {c P : Addr} {params : Arguments} {body : Expr} {scope : Scope} {pos : Pos} {E Q : Value → Shared → Prop} (I : Inv X pins σ H s) (TB : LamX.TabB X.base X.mg c P) (hcode : X.env.code = .ref c) (hm : (P, X.env.qual ++ "<lambda>") ∈ T)
    (hu : ∀ p ∈ T, p.1 = P → p.2 = X.env.qual ++ "<lambda>") (hT : LamX.Tabs T H) (hdef : defaultsOf params X.env = ([], [])) (hfree : ∀ y ∈ scope.names, y.2 = .free → ∃ c, X.env.cells.lookup y.1 = some c)
    (done : ∀ (f c' : Addr) (H1 : Hp) (s' : Shared), Inv X pins σ H1 s' → LamX.ExtN H H1 → LamX.Tabs T H1 → H f = none → H c' = none ∨ H c' = some (LamX.CodeO c' (X.env.qual ++ "<lambda>")) →
      H1 f = some (.ext (LamP f (X.env.qual ++ "<lambda>") params body scope (cloFrom X.env.cells scope.names []) c')) → H1 c' = some (LamX.CodeO c' (X.env.qual ++ "<lambda>")) → Q (.ref f) s') :
    wpAny (model X.prog X.w) X.A (eval (.Lambda params body scope pos) X.env) Q E s := by
  refine PySem.W.kla_eval hdef ?_
  obtain ⟨tab, tabAt, tabOk, tabHas⟩ := hT _ hm
  have tabObj := I.hok P _ tabAt
  have glob := I.mod.glob.keeps I.bk
  have hd := TB.code.keeps I.bk
  have bm : s.heap.BuiltinsAt X.mg P := TB.bm.keeps I.bk
  -- what was told by H1 is told by H1 with the lambda's place
  have grow : ∀ {G : Hp} {f : Addr} {o : HO}, G f = none → LamX.ExtN G (upd G f o) ∧ ∀ b u, G b = some u → upd G f o b = some u := fun {G f o} n => ⟨fun b u e _ => (upd_ne (ne_of_none e n)).trans e, fun b u e => (upd_ne (ne_of_none e n)).trans e⟩
  rcases hfound : codeAmong pos tab.toList with _ | cv
  · refine PySem.W.kla_makeFunction (closure_ok hfree) I.ok.glob glob hcode hd tabObj tabOk hfound TB.gP bm fun c' ctv h' tk kept above below isCode tabNow => ?_
    obtain ⟨_, oc, fields, tok, e, ocAt, ocData, ocName⟩ := isCode
    cases e
    have noC : H c' = none := I.hok.fresh above
    have J := LamX.inv_table (q := X.env.qual ++ "<lambda>") (t' := tk) I tabAt (fun b o n => kept b o n) tabNow above ⟨oc, fields, tok, ocAt, ocData, ocName⟩
    have noF := J.hok.fresh (Nat.le_refl h'.objs.size)
    have old : LamX.ExtN H (upd (upd H P (.tbl (tab ++ #[rawInt pos.line, rawInt pos.col, .ref c']))) c' (LamX.CodeO c' (X.env.qual ++ "<lambda>"))) := fun b o e n =>
      (upd_ne (ne_of_none e noC)).trans ((upd_ne fun z => n tab (Option.some.inj (by rw [← e, z, tabAt]))).trans e)
    have tabs : LamX.Tabs T (upd (upd H P (.tbl (tab ++ #[rawInt pos.line, rawInt pos.col, .ref c']))) c' (LamX.CodeO c' (X.env.qual ++ "<lambda>"))) := by
      intro p hp
      by_cases same : p.1 = P
      · rw [hu p hp same, same]
        have split3 : (tab ++ #[rawInt pos.line, rawInt pos.col, .ref c']).toList = tab.toList ++ [rawInt pos.line, rawInt pos.col, .ref c'] := by simp
        refine ⟨tab ++ #[rawInt pos.line, rawInt pos.col, .ref c'], (upd_ne (ne_of_none tabAt noC)).trans upd_same, by rw [split3]; exact PySem.TriplesOk_snoc _ _ _ _ tabOk, ?_⟩
        intro at_ v hv
        rw [split3] at hv
        rcases LamX.among_app _ tabOk hv with z | rfl
        · obtain ⟨c0, e1, e2⟩ := tabHas at_ v z
          exact ⟨c0, e1, old _ _ e2 LamX.codeO_ne⟩
        · exact ⟨c', rfl, upd_same⟩
      · obtain ⟨tb, a1, a2, a3⟩ := hT p hp
        refine ⟨tb, (upd_ne (ne_of_none a1 noC)).trans ((upd_ne same).trans a1), a2, fun at_ v hv => ?_⟩
        obtain ⟨c0, e1, e2⟩ := a3 at_ v hv
        exact ⟨c0, e1, old _ _ e2 LamX.codeO_ne⟩
    have J2 := lam_tracked (qual := X.env.qual ++ "<lambda>") (params := params) (body := body) (scope := scope) (cl := cloFrom X.env.cells scope.names []) (c' := c') (pm := (X.mg "__name__").getD .none) (ctv := ctv) (t' := tk) J
    have fOld : H h'.objs.size = none := by
      cases q : H h'.objs.size with
      | none => rfl
      | some o =>
        have := (I.hok _ o q).lt
        exact absurd (Nat.lt_of_lt_of_le this (Nat.le_of_lt (Nat.lt_of_le_of_lt above below))) (Nat.lt_irrefl _)
    exact done _ c' _ _ J2 (old.trans (grow noF).1) (tabs.ext (grow noF).2) fOld (.inl noC) upd_same ((grow noF).2 _ _ upd_same)
  · obtain ⟨c', rfl, known⟩ := tabHas pos cv hfound
    refine PySem.W.kla_makeFunctionHit (closure_ok hfree) I.ok.glob glob hcode hd tabObj tabOk hfound bm fun ctv h' tk kept size => ?_
    have J : Inv X pins σ H { s with heap := h', toks := tk } := I.kept kept
    have noF : H h'.objs.size = none := J.hok.fresh (Nat.le_refl _)
    have J2 := lam_tracked (qual := X.env.qual ++ "<lambda>") (params := params) (body := body) (scope := scope) (cl := cloFrom X.env.cells scope.names []) (c' := c') (pm := (X.mg "__name__").getD .none) (ctv := ctv) (t' := tk) J
    exact done _ c' _ _ J2 (grow noF).1 (hT.ext (grow noF).2) noF (.inr known) upd_same ((grow noF).2 _ _ known)
end

/-! ### as a callable -/
def Ext.plus (Z : Ext) (l : List (Addr × (Heap → Prop))) : Ext := { Z with fns := l ++ Z.fns }
theorem RB.lists {z : Option (Addr × Addr)} {H : Hp} (h : RB z H) : ∀ a ∈ fpB z, ∃ us, H a = some (.lst us) := by
  cases z with
  | none => intro a m; simp [fpB] at m
  | some z =>
    obtain ⟨b, c⟩ := z
    obtain ⟨b0, b1, b2, cs, h1, h2, _⟩ := h
    intro a m
    simp [fpB] at m
    rcases m with rfl | rfl
    · exact ⟨_, h1⟩
    · exact ⟨_, h2⟩
theorem RZ.minus {Z : Ext} {l : List (Addr × (Heap → Prop))} {H : Hp} (h : RZ (Z.plus l) H) : RZ Z H := ⟨h.bag, h.tabs, fun p m => h.fns p (List.mem_append_right _ m)⟩
theorem RZ.plus {Z : Ext} {l : List (Addr × (Heap → Prop))} {H : Hp} (h : RZ Z H) (hl : ∀ p ∈ l, H p.1 = some (.ext p.2)) : RZ (Z.plus l) H := ⟨h.bag, h.tabs, fun p m => (List.mem_append.mp m).elim (hl p) (h.fns p)⟩
theorem RZ.again {Z : Ext} {l : List (Addr × (Heap → Prop))} {H H' : Hp} (h0 : RZ (Z.plus l) H) (e : SameBut (fp Z) H H') (h : RZ Z H') : RZ (Z.plus l) H' := h.plus fun p m => by
  have q := h0.fns p (List.mem_append_left _ m)
  refine e _ _ (fun z => ?_) (fun ps z => by cases z) q
  obtain ⟨us, e'⟩ := h0.bag.lists _ z
  rw [q] at e'
  cases e'
theorem Gr.minus {Z : Ext} {l : List (Addr × (Heap → Prop))} {ow : List Addr} {H : Hp} (g : Gr (Z.plus l) ow H) : Gr Z ow H := ⟨g.ext.minus, g.fpo, g.isS⟩
theorem Clb.grow {P : Program} {w : World} {K : PySem.W.Frag} {mg : Str → Option Value} {base : Heap} {kc : Nat} {Z : Ext} {l : List (Addr × (Heap → Prop))} {f : Addr} {φ : Fn1} (h : Clb P w K mg base kc Z f φ) : Clb P w K mg base kc (Z.plus l) f φ := by
  refine ⟨h.keeps.imp id fun ⟨ψ, m, q⟩ => ⟨ψ, List.mem_append_right _ m, q⟩, fun A outer s H ow u v d R Q E hr e0 gr rv hd hp hQ => ?_⟩
  exact h.run A outer s H ow u v d R Q E hr e0 gr.minus rv hd hp fun x v' H' p e z hx => hQ x v' H' p e (gr.ext.again e z) hx
/-- the words of a lambda, for its context -/
abbrev lamNF (qual : Str) (params : Arguments) (scope : Scope) (c' : Addr) : NdefX.NF := ⟨"<lambda>", qual, params, [], scope, [], c'⟩
theorem Clb.ofLam {P : Program} {w : World} {K : PySem.W.Frag} {mg : Str → Option Value} {base : Heap} {kc j : Nat} {Z : Ext} {f c' : Addr} {qual p : Str} {params : Arguments} {body : Expr} {scope : Scope} {N : List Str} {we : WE} (hj : j + 1 ≤ kc) (S : NdefX.NScope N [p] [] scope)
    (hbind : ∀ (u : Value) (pm cv ctv : Value), bindArgs (PySem.W.kla_fn "<lambda>" qual params body scope [] pm cv ctv) ⟨[u], []⟩ = pure [(p, u)]) (hf : (f, LamP f qual params body scope [] c') ∈ Z.fns) (hc : (c', CdP c' qual) ∈ Z.fns)
    (hbody : ∀ (A : Around) (outer : List Env) (s : Shared) (H : Hp) (E : XK) (ow : List Addr), Room j (A.deeper (NdefX.envF (lamNF qual params scope c') f s.heap.objs.size)) → Gr Z ow H →
      SimE (NdefX.ncx (L2.CX P w) P w K mg base N (lamNF qual params scope c') f A outer s H E) (fun cls d _ H' => E cls d H') Z (Clb P w K mg base kc Z) ow H body we) :
    Clb P w K mg base kc Z f fun d R => we (start0 N [.d d]) (fun y => match y.kp with
      | some x => R x
      | none => False) fun _ => False := by
  refine ⟨.inr ⟨_, hf, fun h ⟨pm, ctv, e⟩ => ⟨_, _, _, _, e⟩⟩, fun A outer s H ow u v d R Q E hr e0 gr rv hd hp hQ => ?_⟩
  obtain ⟨⟨pm, ctv, ho⟩, _⟩ := e0.hok f _ (gr.ext.fns _ hf)
  have hcode := NdefX.codeO_at e0.hok (show H c' = some (LamX.CodeO c' qual) from gr.ext.fns _ hc)
  have lim : s.heap.NoLimit := e0.mod.nolimit.keeps fun b o e => (e0.bs b o e).1
  refine PySem.W.kla_callFunE hr.depth ho rfl S.co S.gen rfl hcode ?_
  rw [hbind]
  refine wpAny_pure (wpAny_newFunctionEnv S.nocell (fun y hy => ?_) (fun h₁ hns hsb => ⟨lim.fresh _ hsb, ?_⟩) S.kind)
  · simp only [List.mem_singleton] at hy
    subst hy
    exact S.par p (by simp)
  show codeAny _ _ (.expr body (NdefX.envF (lamNF qual params scope c') f s.heap.objs.size)) _ _
  have kp : ∀ b o, s.heap.get? b = some o → h₁.get? b = some o := fun b o e => hsb.extBut b o (Nat.ne_of_lt (Heap.lt_size e)) (Heap.get?_push_of_some _ e)
  have J : Inv (NdefX.ncx (L2.CX P w) P w K mg base N (lamNF qual params scope c') f A outer s H E) [] (NdefX.startF N [v] []) H { s with heap := h₁, toks := s.toks + [(p, u)].length } :=
    NdefX.inv_startN (ps := [p]) (fr := []) (us := [u]) S hr.hd e0 rfl (.cons rv .nil) ⟨rfl, fun y c e => (nomatch e), fun x y c e => (nomatch e), fun i y e => by simp at e⟩ hns kp
  have e1 : NdefX.startF N [v] [] = L2.start N [v] := by simp [NdefX.startF, L2.start]
  rw [e1] at J
  have rel := rel_start (CL := Clb P w K mg base kc Z) (N := N) gr (RVs.cons (y := .d d) hd .nil) rfl
  refine PySem.W.kla_codeExpr (wpAny_mono ((hbody A outer s H E ow ((hr.mono hj).deeper _) gr (hid ow H) _ _ H ow _ _ Q rel hp (fun y v' H' p e z q => ?_) (fun _ _ _ _ z => z.elim)).go [] _ J) (fun v' s' hq => ?_) fun e s' hq => hq)
  · split at p
    · rename_i x ex
      exact hQ x v' H' p e z (q.kp ex)
    · exact p.elim
  · obtain ⟨w', H', J', rv', q⟩ := hq
    exact ⟨w', H', J'.os, J'.bare, J'.base, J'.hok, rv', q⟩

/-! ### x(e, lambda p: body) -/
def noFn : Val → Bool
  | .fn _ _ => false
  | _ => true
def wCallL (Φ : Fs) (φ : Fn1) (w : WE) : WE := fun ρ P Ex => w ρ (fun y => match toArg y with
  | some a => ∀ f, Φ [a, .fn f φ] (fun z => noFn z = true ∧ P z) Ex
  | none => False) Ex
section
variable {X : Cx} {W : WX} {Z : Ext} {ow0 : List Addr} {Hb : Hp} {TT : List (Addr × Str)} {kc : Nat}
theorem RV.noFn {CL CL' : Calls} {l : List (Addr × (Heap → Prop))} {K : PySem.W.Frag} {ow : List Addr} {H0 H : Hp} {v : V} {y : Val} (h : RV CL (Z.plus l) K ow H0 H v y) (n : noFn y = true) : RV CL' Z K ow H0 H v y := by
  cases y with
  | fn f φ => cases n
  | d x => exact h
  | own xs => exact h
  | bor xs => exact h
  | bag => exact h
theorem extN_same {fp : List Addr} {H H' : Hp} (e : LamX.ExtN H H') : SameBut fp H H' := fun a o _ t q => e a o q t
theorem RZ.extN {H H' : Hp} (h : RZ Z H) (e : LamX.ExtN H H') (t : LamX.Tabs Z.tabs H') : RZ Z H' := ⟨h.bag.frame fun a m => by
  obtain ⟨us, q⟩ := h.bag.lists a m
  rw [q, e a _ q nt_lst], t, fun p m => e _ _ (h.fns p m) fun ps z => by cases z⟩
theorem sim_callL {k : Nat} {f : Addr} {fd : FuncData} {ps : List Str} {Φ : Fs} {x p : Str} {xp pos lpos : Pos} {e body : Expr} {params : Arguments} {scope : Scope} {c P : Addr} {N : List Str} {we wb : WE} {j : Nat} (F : FnOk X.prog X.w X.K X.mg X.base (L2.CX X.prog X.w) k f fd ps (spW X.prog X.w X.K X.mg X.base TT kc 2 Φ)) (hps : ps.length = 2) (hT : Z.tabs = TT) (hr : Room k X.A) (tk : Takes X W) (hg : Gl X x)
    (hm : X.mg x = some (.ref f)) (hk : PySem.W.keepIn X.K (.ref f) = true) (hb : Binds X.K fd ps []) (he : SimE X W Z (Clb X.prog X.w X.K X.mg X.base kc Z) ow0 Hb e we)
    (TB : LamX.TabB X.base X.mg c P) (hcode : X.env.code = .ref c) (hmT : (P, X.env.qual ++ "<lambda>") ∈ Z.tabs) (hu : ∀ p ∈ Z.tabs, p.1 = P → p.2 = X.env.qual ++ "<lambda>") (hj : j + 1 ≤ kc) (SN : NdefX.NScope N [p] [] scope) (hdef : defaultsOf params X.env = ([], [])) (hcl : ∀ cells, cloFrom cells scope.names [] = [])
    (hbind : ∀ (qual : Str) (u : Value) (pm cv ctv : Value), bindArgs (PySem.W.kla_fn "<lambda>" qual params body scope [] pm cv ctv) ⟨[u], []⟩ = pure [(p, u)])
    (hbody : ∀ (Z' : Ext) (f' c' : Addr) (A : Around) (outer : List Env) (s : Shared) (H : Hp) (E : XK) (ow : List Addr), Z'.tabs = TT → Room j (A.deeper (NdefX.envF (lamNF (X.env.qual ++ "<lambda>") params scope c') f' s.heap.objs.size)) → Gr Z' ow H →
      SimE (NdefX.ncx (L2.CX X.prog X.w) X.prog X.w X.K X.mg X.base N (lamNF (X.env.qual ++ "<lambda>") params scope c') f' A outer s H E) (fun cls d _ H' => E cls d H') Z' (Clb X.prog X.w X.K X.mg X.base kc Z') ow H body wb)
    (hdb : (x == ("__debug__" : Str)) = false := by decide) (hs : starEach [e, .Lambda params body scope lpos] X.env = (false, eval e X.env) :: starEach [.Lambda params body scope lpos] X.env := by rfl) (hpl : (backTo pos (starEach [.Lambda params body scope lpos] X.env)).any (·.1) = false := by rfl)
    (hs2 : starEach [.Lambda params body scope lpos] X.env = (false, eval (.Lambda params body scope lpos) X.env) :: starEach [] X.env := by rfl) :
    SimE X W Z (Clb X.prog X.w X.K X.mg X.base kc Z) ow0 Hb (.Call (.Name x xp) [e, .Lambda params body scope lpos] [] pos)
      (wCallL Φ (fun d R => wb (start0 N [.d d]) (fun y => match y.kp with
        | some x => R x
        | none => False) fun _ => False) we) := by
  intro S ρ σ H ow R Ex Q r wq g b
  refine ⟨fun pins s I => ?_⟩
  have hfree : ∀ y ∈ scope.names, y.2 = .free → ∃ c, X.env.cells.lookup y.1 = some c := fun y hy z => absurd (SN.free y hy z) (by simp)
  refine wpAny_Call_Name_kw (ld_glob I hg hm ?_ hdb)
  refine PySem.W.callWith_K (h₀ := X.base) I.ok.mod.kin hk ?_ hs hpl
  have hargs : PAat X [e, .Lambda params body scope lpos] σ H fun vs H1 => spW X.prog X.w X.K X.mg X.base TT kc 2 Φ vs H1 Q (L2.WE W σ) := by
    refine PAat.of (pa_cons PEat.pe PAat.pa hs) (he S ρ σ H ow _ _ _ r wq (fun y v H1 p1 e1 z1 h1 => ?_) b)
    refine ⟨fun pos' pins' s1 I1 => ?_⟩
    rw [hs2]
    show wpAny _ _ (spliced ((false, eval (.Lambda params body scope lpos) X.env) :: backTo pos' (starEach [] X.env))) _ _ s1
    refine Calls.spliced_cons (lam_made I1 TB hcode hmT hu z1.tabs hdef hfree fun f' c' H2 s2 I2 eN T2 nf nc hf hc => ?_)
    refine Calls.spliced_nil ⟨[.ref f'], H2, I2, .cons rfl .nil, ?_⟩
    rw [hcl] at hf
    split at p1
    · rename_i a ea
      have zz : RZ Z H2 := z1.extN eN T2
      have e2 : SameBut (fp Z) H1 H2 := extN_same eN
      let l : List (Addr × (Heap → Prop)) := [(f', LamP f' (X.env.qual ++ "<lambda>") params body scope [] c'), (c', CdP c' (X.env.qual ++ "<lambda>"))]
      have zp : RZ (Z.plus l) H2 := zz.plus fun p m => by
        simp only [l, List.mem_cons, List.not_mem_nil, or_false] at m
        rcases m with rfl | rfl
        · exact hf
        · exact hc
      have gr2 := r.gr.step (e1.trans e2) zz
      have h2 := h1.stay e2 r.gr.fpo
      obtain ⟨q1, q2⟩ := h2.arg ea
      have q1' : RV (Clb X.prog X.w X.K X.mg X.base kc (Z.plus l)) (Z.plus l) X.K ow H2 H2 v a := by
        cases a with
        | fn f φ => exact ⟨q1.1, q1.2.grow⟩
        | d x => exact q1
        | own xs => cases q2
        | bor xs => cases q2
        | bag => exact q1
      have callable := Clb.ofLam (P := X.prog) (w := X.w) (K := X.K) (mg := X.mg) (base := X.base) (Z := Z.plus l) (f := f') (c' := c') (qual := X.env.qual ++ "<lambda>") (we := wb) hj SN (hbind _) (List.mem_append_left _ List.mem_cons_self) (List.mem_append_left _ (List.mem_cons_of_mem _ List.mem_cons_self))
        fun A outer s H E ow hr gr => hbody (Z.plus l) f' c' A outer s H E ow hT hr gr
      refine ⟨rfl, Z.plus l, ow, hT, [a, .fn f' _], _, Ex, ⟨zp, gr2.fpo, gr2.isS⟩, .cons q1' (.cons ⟨rfl, callable⟩ .nil), by show (argOk a && (true && true)) = true; rw [q2]; rfl, p1 f', fun y v' H' pz e3 z3 h3 => ?_, fun x cls d H' ex er s3 z3 => ?_⟩
      · exact g y v' H' pz.2 ((e1.trans e2).trans e3) z3.minus ((h3.noFn pz.1).back (e1.trans e2) r.gr.fpo)
      · exact b x cls d H' ex er ((e1.trans e2).trans s3) z3.minus
    · exact p1.elim
  refine thn (hargs.go pos pins s I) fun us s1 ⟨vs, H1, I1, rv, q⟩ => ⟨I1.kIn, ?_⟩
  have hl : us.length = ps.length := by rw [← rv.length, hps]; exact q.1
  have b' := hb s1 us I1.kIn (by rw [List.append_nil]; exact hl)
  rw [List.append_nil] at b'
  refine wpAny_call (codeAny_mono (F.run X.A X.stack s1 H1 ⟨us, []⟩ us vs Q (L2.WE W σ) hr I1.env0 b' rv q) fun r s' hq => ?_)
  cases r with
  | error e => exact passAt tk σ pins H1 s1 e s' I1 hq
  | ok fl =>
    cases fl with
    | ret u => exact I1.after hq
    | next => exact False.elim hq
    | brk => exact False.elim hq
    | cont => exact False.elim hq
end
end Pd

/-! Pd13: the law's bag. -/
namespace Pd
open PySem PySem.Spec PyProof.Rows L2
/-- what lies at the bag's place k -/
def bagOk (k z : Int) : Prop := 0 ≤ z ∧ (k = 1 → z < 2147483648)
section
variable {X : Cx} {W : WX} {Z : Ext} {CL : Calls} {ow0 : List Addr} {Hb : Hp}
theorem RZ.bagAt {H : Hp} (h : RZ Z H) {b c : Addr} (e : Z.bag = some (b, c)) : BagAt H b c := by
  have q := h.bag
  rw [e] at q
  exact q
theorem RZ.bagPut {H : Hp} {b c : Addr} {us vs : List V} (h : RZ Z H) (e : Z.bag = some (b, c)) (hb : H b = some (.lst us)) (n : BagAt (L2.upd H b (.lst vs)) b c) : RZ Z (L2.upd H b (.lst vs)) := by
  refine ⟨by rw [e]; exact n, fun t ht => ?_, fun p m => ?_⟩
  · obtain ⟨ps, h1, h2, h3⟩ := h.tabs t ht
    refine ⟨ps, (upd_ne (ne_of h1 hb (by intro z; cases z))).trans h1, h2, fun pos cv hc => ?_⟩
    obtain ⟨d, e1, e2⟩ := h3 pos cv hc
    exact ⟨d, e1, (upd_ne (ne_of e2 hb (by intro z; unfold LamX.CodeO at z; cases z))).trans e2⟩
  · exact (upd_ne (ne_of (h.fns p m) hb (by intro z; cases z))).trans (h.fns p m)
theorem same_in {fp : List Addr} {H : Hp} {b : Addr} {o : HO} (m : b ∈ fp) : SameBut fp H (upd H b o) := fun a u n _ q => by
  have ne : a ≠ b := fun e => n (by rw [e]; exact m)
  rw [upd_ne ne]
  exact q
theorem bag_fp {b c : Addr} (e : Z.bag = some (b, c)) : b ∈ fp Z := by
  unfold fp
  rw [e]
  exact List.mem_cons_self
theorem Rel.bag {S : Hp} {ρ : Ev} {σ : L2.St} {H : Hp} {ow : List Addr} {i : Nat} (r : Rel CL Z X.K ow0 Hb S ρ σ H ow) (h : ρ[i]? = some (some .bag)) : ∃ b c, σ[i]? = some (some (.ref b)) ∧ Z.bag = some (b, c) ∧ BagAt H b c := by
  obtain ⟨v, h1, b, c, e, rfl⟩ := r.val i _ h
  exact ⟨b, c, h1, e, r.gr.ext.bagAt e⟩
/-- bag[k] -/
def wBag (i : Nat) (k : Int) : WE := fun ρ P _ => ρ[i]? = some (some .bag) ∧ ∀ z, bagOk k z → P (.d (.int z))
theorem bag_at {H : Hp} {b c : Addr} {k : Int} (h : BagAt H b c) (hk : k = 0 ∨ k = 1 ∨ k = 2) : ∃ z us, H b = some (.lst us) ∧ atI us k = some (.int z) ∧ bagOk k z := by
  obtain ⟨b0, b1, b2, cs, h1, h2, g0, g1, g1', g2, _⟩ := h
  rcases hk with rfl | rfl | rfl
  · exact ⟨b0, _, h1, rfl, g0, fun z => by cases z⟩
  · exact ⟨b1, _, h1, rfl, g1, fun _ => g1'⟩
  · exact ⟨b2, _, h1, rfl, g2, fun z => by cases z⟩
theorem sim_bag (i : Nat) {k : Int} {x : Str} {xp ip pos : Pos} {j : Nat} (hk : k = 0 ∨ k = 1 ∨ k = 2) (hN : X.N[i]? = some x := by rfl) (hv : Vis X.env.scope x := by first | exact Or.inl rfl | exact Or.inr (Or.inl rfl) | exact Or.inr (Or.inr rfl))
    (hd : (x == ("__debug__" : Str)) = false := by decide) (hcd : (x == ("__classdict__" : Str)) = false := by decide) (hs : PlainIx (.Constant (.int k) j ip) := by intro _ _; rfl) : SimE X W Z CL ow0 Hb (.Subscript (.Name x xp) (.Constant (.int k) j ip) pos) (wBag i k) := by
  intro S ρ σ H ow P Ex Q r w g bd
  obtain ⟨b, c, h1, e, ha⟩ := r.bag w.1
  obtain ⟨z, us, h2, h3, h4⟩ := bag_at ha hk
  exact PEat.of (pe_ix ix_list (pe_var hN hv hd hcd) pe_int hs) ⟨.ref b, h1, b, us, k, .int z, rfl, rfl, .inl (.of h2), h3, g.sc (w.2 z h4) r.gr.ext fun _ => .int z⟩
/-- written -/
theorem bag_set {H : Hp} {b c : Addr} {k z : Int} (h : BagAt H b c) (hk : k = 0 ∨ k = 1 ∨ k = 2) (hz : bagOk k z) : ∃ us j, H b = some (.lst us) ∧ ixN us.length k = some j ∧ BagAt (upd H b (.lst (us.set j (.int z)))) b c := by
  obtain ⟨b0, b1, b2, cs, h1, h2, g0, g1, g1', g2, g3, gl, ne⟩ := h
  have h2' : ∀ o, upd H b o c = some (.lst (cs.map V.int)) := fun o => by rw [upd_ne (Ne.symm ne)]; exact h2
  rcases hk with rfl | rfl | rfl
  · exact ⟨_, 0, h1, rfl, z, b1, b2, cs, upd_same, h2' _, hz.1, g1, g1', g2, g3, gl, ne⟩
  · exact ⟨_, 1, h1, rfl, b0, z, b2, cs, upd_same, h2' _, g0, hz.1, hz.2 rfl, g2, g3, gl, ne⟩
  · exact ⟨_, 2, h1, rfl, b0, b1, z, cs, upd_same, h2' _, g0, g1, g1', hz.1, g3, gl, ne⟩
def wBagSet (i : Nat) (k : Int) (w : WE) : WS := fun E ρ => ρ[i]? = some (some .bag) ∧ w ρ (fun y => match y with
  | .d (.int z) => bagOk k z ∧ E.nx ρ
  | _ => False) (fun x => E.ex x ρ)
theorem sim_bagset (i : Nat) {k : Int} {x : Str} {xp ip tp pos : Pos} {j : Nat} {e : Expr} {we : WE} (hk : k = 0 ∨ k = 1 ∨ k = 2) (h : SimE X W Z CL ow0 Hb e we) (hN : X.N[i]? = some x := by rfl) (hv : Vis X.env.scope x := by first | exact Or.inl rfl | exact Or.inr (Or.inl rfl) | exact Or.inr (Or.inr rfl))
    (hd : (x == ("__debug__" : Str)) = false := by decide) (hcd : (x == ("__classdict__" : Str)) = false := by decide)
    (hs : swapsWithSole [.Subscript (.Name x xp) (.Constant (.int k) j ip) tp] e pos.line X.env = pure false := by rfl) (hw : swappedStores [.Subscript (.Name x xp) (.Constant (.int k) j ip) tp] e X.env = pure none := by rfl) :
    SimS X W Z CL ow0 Hb (.Assign [.Subscript (.Name x xp) (.Constant (.int k) j ip) tp] e pos) (wBagSet i k we) := by
  intro S ρ σ H ow E D r w o
  refine PSat.of (ps_asg PEat.pe (pg_sub (pe_var hN hv hd hcd) pe_int set_list) hs hw) ?_
  refine h S ρ σ H ow _ _ _ r w.2 (fun y v H1 p1 e1 z1 h1 => ?_) (o.bd r)
  have r1 := r.step e1 z1
  obtain ⟨b, c, s1, eb, ha⟩ := r1.bag w.1
  split at p1
  · rename_i z
    cases (h1 : Dt X.K (hid ow H1) v (.int z))
    obtain ⟨us, jj, h2, h3, h4⟩ := bag_set ha hk p1.1
    exact ⟨.ref b, s1, b, us, k, jj, rfl, rfl, h2, h3, o.nx ρ σ _ ow p1.2 (r1.step (same_in (bag_fp eb)) (z1.bagPut eb h2 h4))⟩
  · exact p1.elim
/-- getItem of a list, an index within -/
theorem get_list : PGet X (fun o i H Q => ∃ p us k y, o = .ref p ∧ i = .int k ∧ 0 ≤ k ∧ H p = some (.lst us) ∧ us[k.toNat]? = some y ∧ Q y H) := by
  intro pins s σ H o i ov iv Q I ro ri h
  obtain ⟨p, us, k, y, rfl, rfl, h0, hp, hy, q⟩ := h
  cases ro
  obtain ⟨t, rfl⟩ := ri
  obtain ⟨its, rv, pl, hz⟩ := I.list (.inl (.of hp))
  obtain ⟨u, eu, ru⟩ := rv.get hy
  have hl := rv.length
  have hlt : k.toNat < us.length := (List.getElem?_eq_some_iff.mp hy).1
  have hn := line63
  exact wpAny_getItem_list pl.isList h0 (by omega) (by simpa using eu) ⟨y, H, I, ru, q⟩
def wBagAdd (i : Nat) (n : Int) : WS := fun E ρ => ρ[i]? = some (some .bag) ∧ 0 ≤ n ∧ E.nx ρ
theorem sim_bagadd (i : Nat) {n : Int} {x : Str} {xp ip tp np pos : Pos} {j jn : Nat} (hN : X.N[i]? = some x := by rfl) (hv : Vis X.env.scope x := by first | exact Or.inl rfl | exact Or.inr (Or.inl rfl) | exact Or.inr (Or.inr rfl))
    (hd : (x == ("__debug__" : Str)) = false := by decide) (hcd : (x == ("__classdict__" : Str)) = false := by decide) :
    SimS X W Z CL ow0 Hb (.AugAssign (.Subscript (.Name x xp) (.Constant (.int 2) j ip) tp) .Add (.Constant (.int n) jn np) pos) (wBagAdd i n) := by
  intro S ρ σ H ow E D r w o
  obtain ⟨b, c, s1, eb, ha⟩ := r.bag w.1
  obtain ⟨b0, b1, b2, cs, h1, h2, g0, g1, g1', g2, g3, gl, ne⟩ := id ha
  obtain ⟨us, jj, q1, q2, q3⟩ := bag_set (k := 2) (z := b2 + n) ha (.inr (.inr rfl)) ⟨by have := w.2.1; omega, fun z => by cases z⟩
  refine PSat.of (ps_augS (pe_var hN hv hd hcd) pe_int get_list pe_int ip_add set_list) ?_
  exact ⟨.ref b, s1, b, _, 2, .int b2, rfl, rfl, by decide, h1, rfl, b2, n, rfl, rfl, b, us, 2, jj, rfl, rfl, q1, q2, o.nx ρ σ _ ow w.2.2 (r.step (same_in (bag_fp eb)) (r.gr.ext.bagPut eb q1 q3))⟩
/-- (bag[3][bag[2]:] + [0])[0] -/
def wBagCell (i : Nat) : WE := fun ρ P _ => ρ[i]? = some (some .bag) ∧ ∀ z, 0 ≤ z → P (.d (.int z))
theorem sim_bagcell (i : Nat) {x : Str} {xp xp2 ip ip2 p1 p2 p3 p4 p5 p6 p7 p8 p9 : Pos} {j j2 j3 j4 : Nat} (hN : X.N[i]? = some x := by rfl) (hv : Vis X.env.scope x := by first | exact Or.inl rfl | exact Or.inr (Or.inl rfl) | exact Or.inr (Or.inr rfl))
    (hd : (x == ("__debug__" : Str)) = false := by decide) (hcd : (x == ("__classdict__" : Str)) = false := by decide) :
    SimE X W Z CL ow0 Hb (.Subscript (.BinOp (.Subscript (.Subscript (.Name x xp) (.Constant (.int 3) j ip) p1) (.Slice (some (.Subscript (.Name x xp2) (.Constant (.int 2) j2 ip2) p2)) none none p3) p4) .Add (.List [.Constant (.int 0) j3 p5] p6) p7) (.Constant (.int 0) j4 p8) p9) (wBagCell i) := by
  intro S ρ σ H ow P Ex Q r w g bd
  obtain ⟨b, c, s1, eb, b0, b1, b2, cs, h1, h2, g0, g1, g1', g2, g3, gl, ne⟩ := r.bag w.1
  refine ⟨fun pins s I => ?_⟩
  have hlen : cs.length ≤ sizeLine := by
    obtain ⟨z, _⟩ := I.hok c _ h2
    rw [List.length_map] at z
    exact z
  refine (pe_ix ix_list (pe_op op_cat (pe_slice sl_list (pe_ix ix_list (pe_var hN hv hd hcd) pe_int (by intro _ _; rfl)) (po_some (pe_ix ix_list (pe_var hN hv hd hcd) pe_int (by intro _ _; rfl))) po_none) (pe_lst (pa_cons pe_int pa_nil))) pe_int (by intro _ _; rfl)).run pins s σ H Q I ?_
  refine ⟨.ref b, s1, b, _, 3, .ref c, rfl, rfl, .inl (.of h1), rfl, .ref b, s1, b, _, 2, .int b2, rfl, rfl, .inl (.of h1), rfl, b2, rfl, c, _, rfl, .inl (.of h2), fun p hp => ?_⟩
  refine ⟨by show 1 ≤ sizeLine; rw [sizeLine_eq]; omega, fun q hq => ?_⟩
  have npq : p ≠ q := fun e => by rw [e, upd_same] at hq; cases hq
  have nq : H q = none := by
    rw [upd_ne (Ne.symm npq)] at hq
    exact hq
  have n1 := Le.new (o := .lst (cutV (cs.map V.int) (some b2) none)) hp
  have n2 := Le.new (o := .lst [V.int 0]) hq
  -- the cut list's items are cells
  obtain ⟨ds, hds, hpos⟩ : ∃ ds : List Int, cutV (cs.map V.int) (some b2) none = ds.map V.int ∧ ∀ d ∈ ds, 0 ≤ d := by
    refine ⟨cutG cs (some b2) none, ?_, fun d m => g3 d ?_⟩
    · unfold cutV cutG
      rw [List.length_map, ← List.map_drop, ← List.map_take]
    · unfold cutG at m
      exact List.mem_of_mem_drop (List.mem_of_mem_take m)
  refine ⟨p, q, _, [V.int 0], rfl, rfl, (upd_ne npq).trans upd_same, upd_same, ?_, fun t ht => ?_⟩
  · have hl : ds.length ≤ cs.length := by
      have e := congrArg List.length hds
      unfold cutV at e
      simp only [List.length_map, List.length_take, List.length_drop] at e
      omega
    rw [hds, List.length_map]
    show ds.length + 1 ≤ sizeLine
    rw [sizeLine_eq]
    omega
  · obtain ⟨z, hz, h0⟩ : ∃ z : Int, (ds.map V.int ++ [V.int 0])[0]? = some (V.int z) ∧ 0 ≤ z := by
      cases ds with
      | nil => exact ⟨0, rfl, Int.le_refl 0⟩
      | cons d r => exact ⟨d, rfl, hpos d List.mem_cons_self⟩
    have le : Le H (upd (upd (upd H p (.lst (cutV (cs.map V.int) (some b2) none))) q (.lst [V.int 0])) t (.lst (cutV (cs.map V.int) (some b2) none ++ [V.int 0]))) := (n1.trans n2).trans (Le.new ht)
    refine ⟨t, _, 0, .int z, rfl, rfl, .inl (.of upd_same), ?_, g.dat (w.2 z h0) le r.gr.ext (.int z)⟩
    rw [hds]
    unfold L2.atI ixN
    rw [if_pos (Int.le_refl 0), if_pos (by rw [List.length_append]; show (0 : Int) < ((ds.map V.int).length + 1 : Nat); omega)]
    exact hz
end
end Pd

/-! Pd14: powers; sorted(set(..)) of a list of ints. -/
namespace Pd
open PySem PySem.Spec PyProof.Rows L2
section
variable {X : Cx} {W : WX} {Z : Ext} {CL : Calls} {ow0 : List Addr} {Hb : Hp}
def opPow : Op2 := fun a b P => match a.rd, b.rd with
  | some (.int i), some (.int j) => CPow i j ∧ P (.d (.int (i ^ j.toNat)))
  | _, _ => False
theorem or_pow : OpR X (binaryOp .Pow) (rD CL Z X.K opPow) := by
  intro pins s σ H x y v u Q I rx ry hyp
  obtain ⟨ow, H0, a, b, P, gr, ha, hb, w, g⟩ := hyp
  unfold opPow at w
  split at w
  · rename_i i j e1 e2
    rw [ha.int e1] at rx
    rw [hb.int e2] at ry
    exact op_pow pins s σ H _ _ v u Q I rx ry ⟨i, j, rfl, rfl, w.1, g.sc w.2 gr.ext fun _ => .int _⟩
  · exact w.elim
end
section
variable {P : Program} {w : World} {A : Around} {E : Value → Shared → Prop} {s : Shared}
/-- the object of a set that is just begun -/
def bornSet (w : World) : Obj := { cls := .type "set", dict := none, data := .set #[] 0 (.fresh 0 0 (!w.params.followText "set-order")) }
set_option maxHeartbeats 3200000 in
/-- set(xs), a list of ints: its members, their count, the order told -/
theorem set_of_list {l : Addr} {items : Array Value} (ns : List Int) {Q : Value → Shared → Prop} (quiet : A.handled = none) (isL : s.heap.IsList l items) (areInts : IntsAre items.toList ns) (few : ns.length + 1 < scanBound)
    (fin : ∀ (h' : Heap) (tk c : Nat), SetR w h' s.heap.objs.size (fun j => decide (j ∈ ns)) c → c ≤ ns.length → (∀ b o, s.heap.get? b = some o → h'.get? b = some o) → Q (.ref s.heap.objs.size) { s with heap := h', toks := tk }) :
    wpAny (model P w) A (call (.type "set") [.ref l]) Q E s := by
  have size : items.size = ns.length := (Array.length_toList (xs := items)).symm.trans (IntsAre.length areInts)
  obtain ⟨cc, tl, mro⟩ := F.called_set.mro
  have madeSet := F.called_set.made; have subSet := F.called_set.sub
  refine wpAny_call (codeAny_of_tree ?_)
  show wpAny _ _ (callAny (.type "set") ⟨[.ref l], []⟩) _ _ _
  refine wpAny_pure ⟨Code.quiet_builtin _ (by decide +kernel), codeAny_builtin F.entry_type_call ?_⟩
  rw [Around.under_plain (weight_type_call_type "set" [.ref l] []) rfl]
  have noType := F.called_set.notType; have creates := F.called_set.canCreate; have typeCalled := F.typeCall_set_1 (.ref l)
  repeat (any_goals (first | assumption | wp_step))

  refine codeAny_mono (code_set_led1 (.ref l) (E := E) (Q₁ := fun obj s₁ => obj = .ref s.heap.objs.size ∧ s₁ = { s with heap := s.heap.push (bornSet w) }) ⟨rfl, rfl⟩) fun r s₁ hr => ?_
  cases r with
  | error e => exact hr
  | ok fl =>
    cases fl with
    | ret obj =>
      obtain ⟨rfl, rfl⟩ := hr
      have born : (s.heap.push (bornSet w)).get? s.heap.objs.size = some (bornSet w) := Heap.get?_push_size _ rfl
      have isSet : Shared.TypeIs { s with heap := s.heap.push (bornSet w) } (.ref s.heap.objs.size) "set" := ⟨_, born, rfl⟩
      have initAt := F.called_set.init.lookup; have initBind := F.called_set.init.bind (.ref s.heap.objs.size)
      repeat (any_goals (first | assumption | wp_step))

      refine codeAny_mono (codeAny_call_builtin (R := wants (fun r s₂ => r = .none ∧ ∃ h' tk c, s₂ = { s with heap := h', toks := tk } ∧ SetR w h' s.heap.objs.size (fun j => decide (j ∈ ns)) c ∧ c ≤ ns.length ∧ (∀ b o, s.heap.get? b = some o → h'.get? b = some o)) E) F.called_set.init.plain F.entry_set_init (check_set_init_1 isSet ?_)) fun r₂ s₂ hr₂ => ?_
      · obtain ⟨⟨oc, od, oda, osl⟩, at_, clsL, cnt, dataL⟩ := isL
        simp only at clsL dataL
        subst clsL; subst dataL
        have at1 : (s.heap.push (bornSet w)).get? l = some { cls := .type "list", dict := od, data := .seq items cnt, slots := osl } := Heap.get?_push_of_some _ at_
        have noSet := F.sub_list_set; have noFrozen := F.sub_list_frozenset
        have noDict : (Value.type "list" == Value.type "dict") = false := by decide
        have list1 : (s.heap.push (bornSet w)).IsList l items := ⟨_, at1, rfl, cnt, rfl⟩
        unfold Builtin.«set.__init__» noKeywords Builtin.Frozenset.updateFrom
        generalize walker : pyIter = PI
        wp_walk
        subst walker

        refine wpAny_pyIter_list list1 (wpAny_bind (wpAny_runValue ?_))
        have below : l < s.heap.objs.size := Heap.lt_size at_
        have calm3 : A.in1.in1.in1.handled = none := by simp [quiet]
        have grown : (s.heap.push (bornSet w)).objs.size = s.heap.objs.size + 1 := Heap.size_push ..
        have apart : l ≠ (s.heap.push (bornSet w)).objs.size := by rw [grown]; exact Nat.ne_of_lt (Nat.lt_succ_of_lt below)
        have off : s.heap.objs.size ∉ [(s.heap.push (bornSet w)).objs.size, l] := by
          rw [grown]
          simp only [List.mem_cons, List.not_mem_nil, or_false, not_or]
          exact ⟨Nat.ne_of_lt (Nat.lt_succ_self _), Nat.ne_of_gt below⟩
        have each : ∀ (i : Nat) (v : Value), items[i]? = some v → ∃ k t, ns[i]? = some k ∧ v = .int k t := fun i v hv => by
          have within : i < ns.length := by rw [← size]; exact (Array.getElem?_eq_some_iff.mp hv).1
          obtain ⟨t, e⟩ := PyProof.Rows.IntsAre.int_at areInts i v (by rw [Array.getElem?_toList]; exact hv)
          refine ⟨ns[i], t, List.getElem?_eq_getElem within, ?_⟩
          rw [e, List.getD_eq_getElem?_getD, List.getElem?_eq_getElem within] <;> rfl
        refine set_update_ints ((Walks.list calm3 _ l apart items).toS) s.heap.objs.size off ns size few each (items.size - 0) 0 _ (by omega) (Nat.zero_le _) ⟨⟨_, Heap.get?_push_size _ rfl, rfl, rfl⟩, (list1.push _)⟩ ?begun ?ended
        case begun => exact ⟨0, Nat.le_refl 0, setR_new_at (Heap.get?_push_of_some _ born)⟩
        case ended =>
          intro s' c' moved many isNow
          obtain ⟨h', g2, d', tk', os'⟩ := s'
          have eg : g2 = s.gens := moved.gens
          have ed : d' = s.drawn := moved.drawn
          have eo : os' = s.os := moved.os
          subst eg; subst ed; subst eo
          show wpAny _ _ _ _ _ _
          refine wpAny_pure ?_
          show wpAny _ _ (ret Value.none) _ _ _
          refine wpAny_pure ⟨rfl, h', tk', c', rfl, isNow, by rw [← size]; exact many, fun b o e => ?_⟩
          have old : b < s.heap.objs.size := Heap.lt_size e
          refine moved.heap b o ?_ (Heap.get?_push_of_some _ (Heap.get?_push_of_some _ e))
          simp only [List.mem_cons, List.not_mem_nil, or_false, not_or, grown]
          exact ⟨Nat.ne_of_lt old, Nat.ne_of_lt (Nat.lt_succ_of_lt old)⟩
      · rcases r₂ with e | fl₂
        · exact hr₂
        · cases fl₂ with
          | ret r =>
            obtain ⟨rfl, h', tk, c', rfl, isNow, many, kept⟩ := hr₂
            repeat (any_goals (first | assumption | wp_step))
            exact fin _ _ _ isNow many kept
          | _ => exact hr₂.elim
    | _ => exact hr.elim
end

section
variable {X : Cx} {W : WX} {Z : Ext} {CL : Calls} {ow0 : List Addr} {Hb : Hp}
/-- sorted(set(e)), ints -/
def wSortedSet (w : WE) : WE := fun ρ P Ex => w ρ (fun y => match y.rd with
  | some (.list xs) => match intsOf xs with
    | some ns => ns.length < 64 ∧ ∀ out : List Int, out.Pairwise (· < ·) → (∀ k, k ∈ out ↔ k ∈ ns) → P (.own (out.map .int))
    | none => False
  | _ => False) Ex
theorem sim_sortedSet {e : Expr} {we : WE} {p p2 q pos : Pos} (hc : X.calm = true) (h : SimE X W Z CL ow0 Hb e we) (hg : Gl X "sorted") (hm : X.mg "sorted" = none) (hg2 : Gl X "set") (hm2 : X.mg "set" = none)
    (na : starEach [e] X.env = (false, eval e X.env) :: starEach [] X.env := by rfl) : SimE X W Z CL ow0 Hb (.Call (.Name "sorted" p) [.Call (.Name "set" p2) [e] [] q] [] pos) (wSortedSet we) := by
  intro S ρ σ H ow P Ex Q r w g bd
  refine ⟨fun pins s I => ?_⟩
  refine Call_ (ld_blt I hg hm PyProof.Rows.boot_sorted (PyProof.Rows.callWith_builtin1 (PyProof.Rows.args_cons ?_ rfl) rfl rfl))
  refine Call_ (ld_blt I hg2 hm2 PyProof.Rows.boot_set (PyProof.Rows.callWith_type1 (PyProof.Rows.args_cons (thn (h S ρ σ H ow _ Ex (fun v H1 => ∃ y, SameBut (fp Z) H H1 ∧ RZ Z H1 ∧ RV CL Z X.K ow H H1 v y ∧ _) r w (fun y v H1 p1 e1 z1 h1 => ⟨y, e1, z1, h1, p1⟩) bd |>.go pins s I) fun u s1 hh => PyProof.Rows.args_nil ?_) na) na rfl))
  obtain ⟨v, H1, I1, rv, y, e1, z1, h1, p1⟩ := hh
  split at p1
  · rename_i xs ex
    split at p1
    · rename_i ns en
      obtain ⟨a, vs, rfl, hp, ha⟩ := h1.list ex
      rw [intsOf_eq en] at ha
      rw [ha.ints] at hp
      cases rv
      obtain ⟨its, r1, pl, hz⟩ := I1.list (.inl (.of hp))
      refine set_of_list (P := X.prog) (w := X.w) ns (I1.ok.hd hc) pl.isList (by simpa using ints_of_vals r1) (by unfold scanBound; omega) fun h' tk c R many kept => PyProof.Rows.args_nil ?_
      have I2 : Inv X pins σ H1 { s1 with heap := h', toks := tk } := I1.kept kept
      refine sorted_set R (I2.ok.hd hc) (by omega) fun s' l out cnt out' kept2 gens os fresh at_ isI up mem len => ?_
      have hn : H1 l = none := I2.hok.fresh fresh
      have le : (out'.map V.int).length ≤ sizeLine := by rw [List.length_map, len, sizeLine_eq]; omega
      have J : Inv X pins σ (upd H1 l (.lst (out'.map V.int))) { ({ s1 with heap := h', toks := tk } : Shared) with heap := s'.heap, gens := s'.gens, drawn := s'.drawn, toks := s'.toks } :=
        I2.call (s := { s1 with heap := h', toks := tk }) (ch := []) (Un.laid kept2 fresh hn) (I2.hok.laid kept2 fresh ⟨le, out.toList, cnt, vals_of_ints isI, at_⟩) (by rw [gens]; exact I2.bare) (fun _ z => nomatch z)
      have same : s' = { s1 with heap := s'.heap, gens := s'.gens, drawn := s'.drawn, toks := s'.toks } := by
        obtain ⟨h1, h2, h3, h4, h5⟩ := s'
        cases os
        rfl
      rw [same]
      refine ⟨.ref l, _, J, rfl, (g.step e1 r.gr.fpo).lst (p1.2 out' up fun k => by rw [mem k, decide_eq_true_eq]) (r.gr.step e1 z1) hn (DtAll.ofInts out')⟩
    · exact p1.elim
  · exact p1.elim
end
end Pd

/-! Pd15: heard(lambda: ..), a def that calls what it got and tells whether an error came. -/
namespace Pd
open PySem PySem.Spec PyProof.Rows L2
/-- try: return (told, act()) except e: return (nothing,) -/
def THeard (K : PySem.W.Frag) (CS : Addr) (told nothing : Str) : (XK → Hp → VK → Prop) → Hp → VK → Prop := fun tl H Q =>
  tl (fun cls _ H' => ∃ b, PySem.W.exmOne K cls (.ref CS) = some b ∧ (b = true → ∀ p, H' p = none → Q (.ref p) (upd H' p (.tup [.str nothing]))) ∧ (b = false → False)) H
    fun v H' => [V.str told, v].length ≤ sizeLine ∧ ∀ p, H' p = none → Q (.ref p) (upd H' p (.tup [.str told, v]))
theorem heard_gives {X : Cx} {Ng : List Str} {x a e q told nothing : Str} {sg : Scope} {g CS : Addr} {cdg : Value} {j j2 k1 k2 : Nat} {p1 p2 p3 p4 p5 p6 p7 p8 p9 p10 p11 : Pos} (hge : sg.names.lookup e = some .globalImplicit) (hme : X.mg e = some (.ref CS)) (hde : (e == ("__debug__" : Str)) = false) (h0 : ∀ f : Addr, (L2.start Ng [V.ref f])[0]? = some (some (V.ref f))) :
    LamX.GivesTo X Ng x sg g cdg [.Try [.Return (some (.Tuple [.Constant (.str told) j p9, .Call (.Name a p1) [] [] p2] k1 p10)) p3] [.ExceptHandler (some (.Name e p4)) none [.Return (some (.Tuple [.Constant (.str nothing) j2 p5] k2 p11)) p6] p7] [] [] p8] a q (THeard X.K CS told nothing) := by
  intro f c' s H Q tl act hc hyp
  have global : Gl (cxOf C8.CX0 X.prog X.w X.K X.mg X.base Ng x sg g cdg X.A X.stack s H C8.E0).nox e := hge
  refine ⟨_, pss_one (ps_try_only (X := (cxOf C8.CX0 X.prog X.w X.K X.mg X.base Ng x sg g cdg X.A X.stack s H C8.E0).nox) (c := .ref CS)
      (tb := fun W D σ H => ∃ Ech : XK, (∀ cls d σ' H', Ech cls d H' → W cls d σ' H') ∧ σ[0]? = some (some (.ref f)) ∧ H c' = some (LamX.CodeO c' q) ∧ tl Ech H fun v H' => [V.str told, v].length ≤ sizeLine ∧ ∀ p, H' p = none → D.rt (.ref p) (upd H' p (.tup [.str told, v])))
      rfl rfl ⟨global, hde, .inl hme⟩ LamX.takes0 (fun W pn xe tk _ => ?_) (fun a oe cls d pn _ _ => pss_one (ps_ret (pe_tup (pa_cons pe_str pa_nil))))), ?_⟩
  · refine ⟨fun pins s' σ H' D I ⟨Ech, hW, at0, code, run⟩ => ?_⟩
    exact (pss_one (ps_ret (pos := p3) (pe_tup (pa_cons pe_str (pa_cons (act W pn xe Ech p1 p2 tk hW) pa_nil))))).run pins s' σ H' D I ⟨at0, code, run⟩
  · refine ⟨fun cls _ H' => ∃ b, PySem.W.exmOne X.K cls (.ref CS) = some b ∧ (b = true → ∀ p, H' p = none → Q (.ref p) (upd H' p (.tup [.str nothing]))) ∧ (b = false → False), fun cls d σ' H' ⟨b, e1, e2, e3⟩ => ⟨b, e1, fun hb a _ => ⟨by show 1 ≤ sizeLine; rw [sizeLine_eq]; omega, fun p hp => e2 hb p hp⟩, fun hb => e3 hb⟩, h0 f, hc, hyp⟩

section
variable {X : Cx} {W : WX} {Z : Ext} {CL : Calls} {ow0 : List Addr} {Hb : Hp}
/-- what holds in every call of a lambda that X makes -/
def InLam (X : Cx) (scope : Scope) (k : Nat) (p : Cx → XK → Prop) : Prop := ∀ (A : Around) (outer : List Env) (s : Shared) (H : Hp) (E : XK) (f c' : Addr), Room k (A.deeper (LamX.lamEnv X scope s.heap.objs.size f c')) → p (LamX.lamCx X A outer s H E scope f c') E
def wHeard (told nothing : Str) (caught : List Str) (we : WE) : WE := fun ρ P _ => we ρ (fun y => match y.kp with
  | some d => P (.d (.tuple [.str told, d]))
  | none => False) fun x => x.cls ∈ caught ∧ P (.d (.tuple [.str nothing]))
theorem sim_heard {x a told nothing : Str} {g c P CS : Addr} {k : Nat} {st : Stmt} {fd : FuncData} {Ng : List Str} {caught : List Str} {params : Arguments} {body : Expr} {scope : Scope} {we : WE} {p lpos pos : Pos} (F : Fun X.K x x st g fd) (hg : Gl X x) (hm : X.mg x = some (.ref g)) (hb : L2.Binds X.K fd [a] []) (SG : FnScope Ng [a] (defScope st)) (hNg : Ng[0]? = some a) (hva : Vis (defScope st) a)
    (hG : ∀ (cdg : Value) (q : Str), LamX.GivesTo X Ng x (defScope st) g cdg (defBody st) a q (THeard X.K CS told nothing)) (hcaught : ∀ e ∈ caught, ∀ C, X.mg e = some (.ref C) → PySem.W.exmOne X.K (.ref C) (.ref CS) = some true)
    (TB : LamX.TabB X.base X.mg c P) (hcode : X.env.code = .ref c) (hmT : (P, X.env.qual ++ "<lambda>") ∈ Z.tabs) (hu : ∀ p ∈ Z.tabs, p.1 = P → p.2 = X.env.qual ++ "<lambda>") (hr : Room (k + 2) X.A) (L : LamX.LamS X.env.scope scope) (hdef : defaultsOf params X.env = ([], []))
    (hbind : ∀ (q : Str) (cl : List (Str × Addr)) (pm cv ctv : Value), bindArgs (PySem.W.kla_fn "<lambda>" q params body scope cl pm cv ctv) ⟨[], []⟩ = pure [])
    (hbody : InLam X scope k fun Y E => SimE Y (fun cls d _ H' => E cls d H') Z CL ow0 Hb body we)
    (hdb : (x == ("__debug__" : Str)) = false := by decide) (hd : (a == ("__debug__" : Str)) = false := by decide) (hcd : (a == ("__classdict__" : Str)) = false := by decide) :
    SimE X W Z CL ow0 Hb (.Call (.Name x p) [.Lambda params body scope lpos] [] pos) (wHeard told nothing caught we) := by
  intro S ρ σ H ow R Ex Q r w gd bd
  obtain ⟨oc, od, kV, doc, pm, an, cdv, ct, osl, rfl, lk, hcd'⟩ := F.ex
  refine PEat.of (LamX.pe_lamcall (t := fun E σ H Q => InLam X scope k fun Y E' => E' = E → PEat Y body σ H Q) hg hm F.kp lk hcd' hb SG hNg hva (hG cdv _) TB hcode hmT hu hr L hdef hbind (fun A outer s H E f c' hr' => ⟨fun pins s' σ H Q I h => (h A outer s _ E f c' hr' rfl).go pins s' I⟩) hdb hd hcd) ?_
  refine ⟨r.gr.ext.tabs, fun H1 eN T1 => ?_⟩
  have e1 : SameBut (fp Z) H H1 := extN_same eN
  have z1 : RZ Z H1 := r.gr.ext.extN eN T1
  have r1 := r.step e1 z1
  have g1 := gd.step e1 r.gr.fpo
  intro A outer s0 H0 E f c' hr' hE
  subst hE
  refine hbody A outer s0 H0 _ f c' hr' S ρ σ H1 ow _ _ _ r1 w (fun y v H2 p2 e2 z2 h2 => ?_) (fun ex cls d H2 p2 er e2 z2 => ?_)
  · split at p2
    · rename_i d ed
      exact ⟨by show 2 ≤ sizeLine; rw [sizeLine_eq]; omega, fun q hq => (g1.step e2 r.gr.fpo).tup p2 (r1.gr.step e2 z2) hq (.cons (.str _) (.cons (h2.kp ed) .nil))⟩
    · exact p2.elim
  · obtain ⟨C, hC, rfl⟩ := er.1
    exact ⟨true, hcaught ex.cls p2.1 C hC, fun _ q hq => (g1.step e2 r.gr.fpo).tup p2.2 (r1.gr.step e2 z2) hq (.cons (.str _) .nil), fun z => nomatch z⟩
end
end Pd

/-! Pd16: stores as data, comprehensions stored, steps down, op=, several names at once; defs bundled. -/
namespace Pd
open PySem PySem.Spec PyProof.Rows L2
section
variable {X : Cx} {W : WX} {Z : Ext} {CL : Calls} {ow0 : List Addr} {Hb : Hp}
/-- name = e, kept as data -/
def wSetD (i : Nat) (w : WE) : WS := fun E ρ => w ρ (fun y => match y.kp with
  | some d => E.nx (ρ.set i (some (.d d)))
  | none => False) (fun x => E.ex x ρ)
theorem sim_setD (i : Nat) {x : Str} {e : Expr} {we : WE} {pos pos' : Pos} (h : SimE X W Z CL ow0 Hb e we) (hN : X.N.Nodup) (hi : X.N[i]? = some x := by rfl) (hx : Loc X.env.scope x := by first | exact Or.inl rfl | exact Or.inr rfl)
    (hs : swapsWith e (some (.Name x pos')) pos.line X.env = pure false := by rfl) (hf : X.fn x = true ∨ X.env.scope.names.lookup x = some .local := by first | exact .inl rfl | exact .inr rfl | assumption) :
    SimS X W Z CL ow0 Hb (.Assign [.Name x pos'] e pos) (wSetD i we) := by
  intro S ρ σ H ow E D r w o
  refine PSat.of (ps_set hN hi hx PEat.pe hs hf) (h S ρ σ H ow _ _ _ r w (fun y v H' p e z q => ?_) (o.bd r))
  split at p
  · rename_i d ed
    exact o.nx _ _ H' ow p ((r.step e z).setD (q.kp ed))
  · exact p.elim
/-- name = [.. for ..] on one line -/
theorem sim_setLcG (i : Nat) {y : Str} {py : Pos} {tg iter elt : Expr} {ifs : List Expr} {scope : Scope} {own : List (Str × Nat)} {pos spos : Pos} {wi : WI} {b : WB} {is : List Nat} {tt : WT} {we : WE} (hc : X.calm = true) (hN : X.N.Nodup) (g0 : Gr Z ow0 Hb) (hi : SimI X W Z CL ow0 Hb tg iter wi) (ok : BlkOk X.N X.env.scope scope own) (his : ∀ i ∈ is, i ∈ own.map (·.2))
    (hg : InBlk X scope fun Y => SimB Y Z CL ow0 Hb tg b is) (ht : InBlk X scope fun Y => SimTs Y W0 Z CL ow0 Hb ifs tt) (he : InBlk X scope fun Y => SimE Y W0 Z CL ow0 Hb elt we)
    (hy : X.N[i]? = some y := by rfl) (hyl : X.env.scope.names.lookup y = some .local := by rfl) (hsw : swapsWith (.ListComp elt [⟨tg, iter, ifs, 0⟩] scope pos) (some (.Name y py)) spos.line X.env = pure true := by exact sw_true rfl rfl rfl (by decide +kernel))
    (hs : ∀ x, foldedSetIterable iter X.env x = pure x := by intro _; rfl) {S : Hp} {ρ : Ev} {σ : L2.St} {H : Hp} {ow : List Addr} {P : Val → Prop} {Ex : Xn → Prop} {D : L2.Ends} (r : Rel CL Z X.K ow0 Hb S ρ σ H ow) (w : wLc wi b tt we (own.map (·.2)) ρ P Ex)
    (gd : Gd CL Z X.K ow H P fun v H' => D.nx (σ.set i (some v)) H') (bd : Bd Z X.K ow X.mg W σ H Ex) : PSat X (.Assign [.Name y py] (.ListComp elt [⟨tg, iter, ifs, 0⟩] scope pos) spos) D σ H := by
  refine PSat.of (ps_setLc (g := fun v σ H Q => InBlk X scope fun Y => PGat Y tg v σ H Q) (tt := fun σ H Q => InBlk X scope fun Y => PTsat Y ifs σ H Q) (te := fun σ H Q => InBlk X scope fun Y => PEat Y elt σ H Q) hc hN hy hyl hsw PIat.pi ok (fun s H C cl fp => ⟨fun pins s' σ H' v u Q I rv h => (h s H C cl fp).go pins s' u I rv⟩) (fun s H C cl fp => ⟨fun pins s' σ H' Q I h => (h s H C cl fp).go pins s' I⟩) (fun s H C cl fp => ⟨fun pins s' σ H' Q I h => (h s H C cl fp).go pins s' I⟩) hs) ?_
  exact lc_parts hg ht he hi his g0 r w gd bd
theorem sim_setLc (i : Nat) {y : Str} {py : Pos} {tg iter elt : Expr} {ifs : List Expr} {scope : Scope} {own : List (Str × Nat)} {pos spos : Pos} {wi : WI} {b : WB} {is : List Nat} {tt : WT} {we : WE} (hc : X.calm = true) (hN : X.N.Nodup) (g0 : Gr Z ow0 Hb) (hi : SimI X W Z CL ow0 Hb tg iter wi) (ok : BlkOk X.N X.env.scope scope own) (his : ∀ i ∈ is, i ∈ own.map (·.2))
    (hg : InBlk X scope fun Y => SimB Y Z CL ow0 Hb tg b is) (ht : InBlk X scope fun Y => SimTs Y W0 Z CL ow0 Hb ifs tt) (he : InBlk X scope fun Y => SimE Y W0 Z CL ow0 Hb elt we)
    (hy : X.N[i]? = some y := by rfl) (hyl : X.env.scope.names.lookup y = some .local := by rfl) (hsw : swapsWith (.ListComp elt [⟨tg, iter, ifs, 0⟩] scope pos) (some (.Name y py)) spos.line X.env = pure true := by exact sw_true rfl rfl rfl (by decide +kernel))
    (hs : ∀ x, foldedSetIterable iter X.env x = pure x := by intro _; rfl) : SimS X W Z CL ow0 Hb (.Assign [.Name y py] (.ListComp elt [⟨tg, iter, ifs, 0⟩] scope pos) spos) (wSet i (wLc wi b tt we (own.map (·.2)))) := by
  intro S ρ σ H ow E D r w o
  refine sim_setLcG i hc hN g0 hi ok his hg ht he hy hyl hsw hs r w (fun t v H' p e z q => ?_) (o.bd r)
  split at p
  · rename_i t' et
    have et' := slv_eq et
    subst et'
    obtain ⟨ow', r'⟩ := r.set (i := i) e z q et
    exact o.nx _ _ H' ow' p r'
  · exact p.elim
theorem sim_setLcD (i : Nat) {y : Str} {py : Pos} {tg iter elt : Expr} {ifs : List Expr} {scope : Scope} {own : List (Str × Nat)} {pos spos : Pos} {wi : WI} {b : WB} {is : List Nat} {tt : WT} {we : WE} (hc : X.calm = true) (hN : X.N.Nodup) (g0 : Gr Z ow0 Hb) (hi : SimI X W Z CL ow0 Hb tg iter wi) (ok : BlkOk X.N X.env.scope scope own) (his : ∀ i ∈ is, i ∈ own.map (·.2))
    (hg : InBlk X scope fun Y => SimB Y Z CL ow0 Hb tg b is) (ht : InBlk X scope fun Y => SimTs Y W0 Z CL ow0 Hb ifs tt) (he : InBlk X scope fun Y => SimE Y W0 Z CL ow0 Hb elt we)
    (hy : X.N[i]? = some y := by rfl) (hyl : X.env.scope.names.lookup y = some .local := by rfl) (hsw : swapsWith (.ListComp elt [⟨tg, iter, ifs, 0⟩] scope pos) (some (.Name y py)) spos.line X.env = pure true := by exact sw_true rfl rfl rfl (by decide +kernel))
    (hs : ∀ x, foldedSetIterable iter X.env x = pure x := by intro _; rfl) : SimS X W Z CL ow0 Hb (.Assign [.Name y py] (.ListComp elt [⟨tg, iter, ifs, 0⟩] scope pos) spos) (wSetD i (wLc wi b tt we (own.map (·.2)))) := by
  intro S ρ σ H ow E D r w o
  refine sim_setLcG i hc hN g0 hi ok his hg ht he hy hyl hsw hs r w (fun t v H' p e z q => ?_) (o.bd r)
  split at p
  · rename_i d ed
    exact o.nx _ _ H' ow p ((r.step e z).setD (q.kp ed))
  · exact p.elim
/-- range(i, j, -1) -/
def downD (lo : Int) (n : Nat) : List D := (List.range n).map fun i => .int (lo - (i : Nat))
theorem itD_down {K : PySem.W.Frag} {S1 : Hp} {lo : Int} {n : Nat} : ItD K S1 (Itc lo (-1) n) (downD lo n) where
  go := fun i H e hi => by
    have : i < n := by simpa [downD] using hi
    exact this
  stop := fun H e => by simp [downD, Itc]
  yld := fun i H x H' ow d _ e hd y => by
    obtain ⟨rfl, rfl⟩ := y
    have hi : i < n := by simpa [downD] using (List.getElem?_eq_some_iff.mp hd).1
    unfold downD at hd
    rw [List.getElem?_map, List.getElem?_range hi] at hd
    cases hd
    have e1 : lo + (i : Int) * (-1) = lo - (i : Int) := by omega
    rw [e1]
    exact ⟨.refl _, .int _⟩
def wRng3 (w : WA) : WI := fun ρ P Ex => w ρ (fun ys => match ys with
  | [x, y, z] => match x.rd, y.rd, z.rd with
    | some (.int i), some (.int j), some (.int (-1)) => rgOk i ∧ rgOk j ∧ (i - j).toNat ≤ sizeLine ∧ P (downD i (i - j).toNat)
    | _, _, _ => False
  | _ => False) Ex
theorem sim_rng3 {tg a c d : Expr} {wa : WA} {p pos : Pos} (hg : Gl X "range") (hm : X.mg "range" = none) (h : SimA X W Z CL ow0 Hb [a, c, d] wa) (hs : starEach [a, c, d] X.env = (false, eval a X.env) :: starEach [c, d] X.env := by rfl) (hpl : (backTo pos (starEach [c, d] X.env)).any (·.1) = false := by rfl) :
    SimI X W Z CL ow0 Hb tg (.Call (.Name "range" p) [a, c, d] [] pos) (wRng3 wa) := by
  intro S ρ σ H ow P Ex R r w g b
  refine PIat.of (pi_range3 hg hm PAat.pa hs hpl) (h S ρ σ H ow _ Ex _ r w (fun ys vs H' p e z q => ?_) b)
  split at p
  · split at p
    · rename_i x y z' i j ei ej ek
      cases q with
      | cons q1 q2 =>
        cases q2 with
        | cons q2 q3 =>
          cases q3 with
          | cons q3 q4 =>
            cases q4
            exact ⟨i, j, -1, _, by rw [q1.int ei, q2.int ej, q3.int ek], RgC.neg p.1.1 p.1.2 p.2.1.1 p.2.1.2, g _ _ H' p.2.2.2 e z itD_down fun _ => by simpa [downD] using p.2.2.1⟩
    · exact p.elim
  · exact p.elim
/-- name += e, ints -/
def wAug (i : Nat) (f : Int → Int → Int) (w : WE) : WS := fun E ρ => match ρ[i]? with
  | some (some (.d (.int k))) => w ρ (fun y => match y.rd with
    | some (.int j) => E.nx (ρ.set i (some (.d (.int (f k j)))))
    | _ => False) (fun x => E.ex x ρ)
  | _ => False
theorem sim_aug (i : Nat) {op : Operator} {f : Int → Int → Int} {x : Str} {e : Expr} {we : WE} {pos pos' : Pos} (ho : PIp X op (ipI f)) (h : SimE X W Z CL ow0 Hb e we) (hN : X.N.Nodup) (hi : X.N[i]? = some x := by rfl) (hx : Loc X.env.scope x := by first | exact Or.inl rfl | exact Or.inr rfl)
    (hf : X.fn x = true ∨ X.env.scope.names.lookup x = some .local := by first | exact .inl rfl | exact .inr rfl | assumption) : SimS X W Z CL ow0 Hb (.AugAssign (.Name x pos') op e pos) (wAug i f we) := by
  intro S ρ σ H ow E D r w o
  unfold wAug at w
  split at w
  · rename_i k hk
    obtain ⟨v, h1, h2⟩ := r.val i _ hk
    cases (h2 : Dt X.K (hid ow H) v (.int k))
    refine PSat.of (ps_aug hN hi hx PEat.pe ho hf) ⟨.int k, h1, ?_⟩
    refine h S ρ σ H ow _ _ _ r w (fun y v H' p e z q => ?_) (o.bd r)
    split at p
    · rename_i j ej
      exact ⟨k, j, rfl, q.int ej, o.nx _ _ H' ow p ((r.step e z).setD (.int _))⟩
    · exact p.elim
  · exact w.elim
/-- target = e, the value data -/
def wAsg (b : WB) (w : WE) : WS := fun E ρ => w ρ (fun y => match y.kp with
  | some d => b ρ d fun ρ' => E.nx ρ'
  | none => False) (fun x => E.ex x ρ)
theorem sim_asg {tg e : Expr} {b : WB} {is : List Nat} {we : WE} {pos : Pos} (h : SimE X W Z CL ow0 Hb e we) (hb : SimB X Z CL ow0 Hb tg b is) (hs : swapsWithSole [tg] e pos.line X.env = pure false := by rfl) (hw : swappedStores [tg] e X.env = pure none := by rfl)
    (h1 : (assignEach [tg] X.env).map (·.2) = [assign tg X.env] := by rfl) : SimS X W Z CL ow0 Hb (.Assign [tg] e pos) (wAsg b we) := by
  intro S ρ σ H ow E D r w o
  refine PSat.of (ps_asg PEat.pe PGat.pg hs hw h1) (h S ρ σ H ow _ _ _ r w (fun y v H' p e z q => ?_) (o.bd r))
  split at p
  · rename_i d ed
    exact hb S ρ σ H' ow d v _ _ (r.step e z) (q.kp ed) p fun ρ' σ' n r' _ => o.nx ρ' σ' H' ow n r'
  · exact p.elim
end
/-! ### defs bundled -/
structure Src (K : PySem.W.Frag) (mg : Str → Option Value) (x qual : Str) (st : Stmt) (ps : List Str) : Prop where
  ex : ∃ (f : Addr) (fd : FuncData), Fun K x qual st f fd ∧ mg x = some (.ref f) ∧ Binds K fd ps []
section
variable (P : Program) (w : World) (K : PySem.W.Frag) (mg : Str → Option Value) (base : Heap) (TT : List (Addr × Str)) (kc : Nat)
structure Dfn (x : Str) (k n : Nat) (Φ : Fs) : Prop where
  ex : ∃ (f : Addr) (fd : FuncData) (ps : List Str), ps.length = n ∧ FnOk P w K mg base (L2.CX P w) k f fd ps (spW P w K mg base TT kc n Φ) ∧ mg x = some (.ref f) ∧ PySem.W.keepIn K (.ref f) = true ∧ Binds K fd ps []
structure Gfn (x : Str) (k n : Nat) (Φ : Fs) : Prop where
  ex : ∃ (f : Addr) (fd : FuncData) (ps : List Str), ps.length = n ∧ GnOk P w K mg base k f fd ps (spW P w K mg base TT kc n Φ) ∧ mg x = some (.ref f) ∧ PySem.W.keepIn K (.ref f) = true ∧ Binds K fd ps []
end
/-- the code object of the def at f -/
def CodeOf (K : PySem.W.Frag) (f : Addr) (cdv : Value) : Prop := ∃ oc od fd osl, K.lookup f = some ⟨oc, od, .func fd, osl⟩ ∧ fd.code = cdv
theorem CodeOf.one {K : PySem.W.Frag} {f : Addr} {a b : Value} (x : CodeOf K f a) (y : CodeOf K f b) : a = b := by
  obtain ⟨oc, od, fd, osl, e, rfl⟩ := x
  obtain ⟨oc', od', fd', osl', e', rfl⟩ := y
  rw [e] at e'
  cases e'
  rfl
section
variable {P : Program} {w : World} {K : PySem.W.Frag} {mg : Str → Option Value} {base : Heap} {TT : List (Addr × Str)} {kc : Nat}
theorem Dfn.g {x : Str} {k n : Nat} {Φ : Fs} (d : Dfn P w K mg base TT kc x k n Φ) : Gfn P w K mg base TT kc x k n Φ := by
  obtain ⟨f, fd, ps, h1, h2, h3⟩ := d.ex
  exact ⟨f, fd, ps, h1, .of h2, h3⟩
theorem dfn_of {x qual : Str} {st : Stmt} {N ps : List Str} {k : Nat} {Φ : Fs} {wb : WS} (F : Src K mg x qual st ps) (S : FnScope N ps (defScope st))
    (hbody : ∀ (f : Addr) (cdv : Value) (A : Around) (outer : List Env) (s : Shared) (H : Hp) (E : XK) (Z : Ext) (ow : List Addr), mg x = some (.ref f) → CodeOf K f cdv → Room k (A.deeper (envOfC qual (defScope st) s.heap.objs.size f cdv)) → Z.tabs = TT → Gr Z ow H →
      SimSs (cxOf (L2.CX P w) P w K mg base N qual (defScope st) f cdv A outer s H E) (fun cls d _ H' => E cls d H') Z (Clb P w K mg base kc Z) ow H (defBody st) wb)
    (hv : ∀ ys R Ex, ys.length = ps.length → ys.all argOk = true → Φ ys R Ex → wb (endW R Ex) (start0 N ys)) : Dfn P w K mg base TT kc x (k + 1) ps.length Φ := by
  obtain ⟨f, fd, hF, hm, hb⟩ := F.ex
  refine ⟨f, fd, ps, rfl, ?_, hm, hF.kp, hb⟩
  obtain ⟨oc, od, kV, doc, pm, an, cdv, ct, osl, rfl, lk, hcd⟩ := hF.ex
  refine fn_of lk hcd S (fun vs H Q E h => h.1) fun A outer s H vs Q E hr h => ?_
  obtain ⟨hl, Z, ow, hT, ys, R, Ex, gr, hy, ha, hΦ, hQ, hE⟩ := h
  refine ⟨_, PSsat.ps, ?_⟩
  refine hbody f cdv A outer s H E Z ow hm ⟨_, _, _, _, lk, rfl⟩ hr hT gr (hid ow H) (start0 N ys) _ H ow (endW R Ex) _ (rel_start gr hy ha) (hv ys R Ex (by rw [← hy.length]; exact hl) ha hΦ) ⟨fun ρ σ H' ow' p r => hQ (.d .none) .non H' p r.sb r.gr.ext .non, fun _ _ _ _ p _ => p.elim, fun _ _ _ _ p _ => p.elim, fun y v H' p e z h => hQ y v H' p e z h, fun x ρ σ H' ow' cls d p r er => ?_⟩
  refine hE x cls d H' p ⟨er.1, fun n => ?_⟩ r.sb r.gr.ext
  obtain ⟨dx, fs, h1, h2, h3, h4⟩ := er.2 n
  exact ⟨dx, fs, h1, h2, h3, DtAll.mono (hid_less r.sub) h4⟩
theorem gfn_of {x qual : Str} {st : Stmt} {N ps : List Str} {k : Nat} {Φ : Fs} {wb : WS} (F : Src K mg x qual st ps) (S : FnScope N ps (defScope st))
    (hbody : ∀ (f : Addr) (cdv : Value) (A : Around) (outer : List Env) (s : Shared) (H : Hp) (E : XK) (Z : Ext) (ow : List Addr), (A.deeper (envOfC qual (defScope st) s.heap.objs.size f cdv)).guards = some [] → Room k (A.deeper (envOfC qual (defScope st) s.heap.objs.size f cdv)) → Z.tabs = TT → Gr Z ow H →
      SimSs (cxOf (L2.CX P w) P w K mg base N qual (defScope st) f cdv A outer s H E) (fun cls d _ H' => E cls d H') Z (Clb P w K mg base kc Z) ow H (defBody st) wb)
    (hv : ∀ ys R Ex, ys.length = ps.length → ys.all argOk = true → Φ ys R Ex → wb (endW R Ex) (start0 N ys)) : Gfn P w K mg base TT kc x (k + 1) ps.length Φ := by
  obtain ⟨f, fd, hF, hm, hb⟩ := F.ex
  exact ⟨f, fd, ps, rfl, gn_W hF S (fun cdv A outer s H E Z ow hg hr _ hT gr => hbody f cdv A outer s H E Z ow hg hr hT gr) hv, hm, hF.kp, hb⟩
end
section
variable {X : Cx} {W : WX} {Z : Ext} {ow0 : List Addr} {Hb : Hp} {TT : List (Addr × Str)} {kc : Nat}
theorem sim_callD {k j n : Nat} {Φ : Fs} {x : Str} {p pos : Pos} {e : Expr} {es : List Expr} {wa : WA} (F : Dfn X.prog X.w X.K X.mg X.base TT kc x j n Φ) (hT : Z.tabs = TT) (hr : Room k X.A) (hj : j ≤ k) (tk : Takes X W) (hg : Gl X x) (ha : SimA X W Z (Clb X.prog X.w X.K X.mg X.base kc Z) ow0 Hb (e :: es) wa)
    (hdb : (x == ("__debug__" : Str)) = false := by decide) (he : starEach (e :: es) X.env = (false, eval e X.env) :: starEach es X.env := by rfl) (hpl : (backTo pos (starEach es X.env)).any (·.1) = false := by rfl) : SimE X W Z (Clb X.prog X.w X.K X.mg X.base kc Z) ow0 Hb (.Call (.Name x p) (e :: es) [] pos) (wCall n Φ wa) := by
  obtain ⟨f, fd, ps, rfl, h2, h3, h4, h5⟩ := F.ex
  exact sim_call h2 hT (hr.mono hj) tk hg h3 h4 h5 ha hdb he hpl
theorem sim_callGD {k j n : Nat} {Φ : Fs} {x : Str} {p pos : Pos} {e : Expr} {es : List Expr} {wa : WA} (F : Gfn X.prog X.w X.K X.mg X.base TT kc x j n Φ) (hT : Z.tabs = TT) (hgd : X.A.guards = some []) (hr : Room k X.A) (hj : j ≤ k) (tk : Takes X W) (hg : Gl X x) (ha : SimA X W Z (Clb X.prog X.w X.K X.mg X.base kc Z) ow0 Hb (e :: es) wa)
    (hdb : (x == ("__debug__" : Str)) = false := by decide) (he : starEach (e :: es) X.env = (false, eval e X.env) :: starEach es X.env := by rfl) (hpl : (backTo pos (starEach es X.env)).any (·.1) = false := by rfl) : SimE X W Z (Clb X.prog X.w X.K X.mg X.base kc Z) ow0 Hb (.Call (.Name x p) (e :: es) [] pos) (wCall n Φ wa) := by
  obtain ⟨f, fd, ps, rfl, h2, h3, h4, h5⟩ := F.ex
  exact sim_callG h2 hT hgd (hr.mono hj) tk hg h3 h4 h5 ha hdb he hpl
/-- a def's name as a callable -/
def wFnA (φ : Fn1) : WE := fun _ P _ => ∀ f, P (.fn f φ)
theorem sim_fnA {k : Nat} {Φ : Fs} {φ : Fn1} {x : Str} {pos : Pos} (F : Dfn X.prog X.w X.K X.mg X.base TT kc x k 1 Φ) (hT : Z.tabs = TT) (hk : k ≤ kc) (hg : Gl X x)
    (hφ : ∀ d R, φ d R → Φ [.d d] (fun y => match y with
      | .d x => R x
      | _ => False) (fun _ => False)) (hdb : (x == ("__debug__" : Str)) = false := by decide) : SimE X W Z (Clb X.prog X.w X.K X.mg X.base kc Z) ow0 Hb (.Name x pos) (wFnA φ) := by
  obtain ⟨f, fd, ps, h1, h2, h3, h4, h5⟩ := F.ex
  match ps, h1 with
  | [q], _ =>
    intro S ρ σ H ow P Ex Q r w g b
    exact PEat.of (pe_glob (v := .ref f) hg h3 rfl hdb) (g _ _ H (w f) (.refl _ _) r.gr.ext ⟨rfl, Clb.ofFn h2 hT hk h4 h5 hφ⟩)
theorem sim_callLD {k j : Nat} {Φ : Fs} {x p : Str} {xp pos lpos : Pos} {e body : Expr} {params : Arguments} {scope : Scope} {c P : Addr} {N : List Str} {we wb : WE} {jb : Nat} (F : Dfn X.prog X.w X.K X.mg X.base TT kc x j 2 Φ) (hT : Z.tabs = TT) (hr : Room k X.A) (hj : j ≤ k) (tk : Takes X W) (hg : Gl X x) (he : SimE X W Z (Clb X.prog X.w X.K X.mg X.base kc Z) ow0 Hb e we)
    (TB : LamX.TabB X.base X.mg c P) (hcode : X.env.code = .ref c) (hmT : (P, X.env.qual ++ "<lambda>") ∈ TT) (hu : ∀ p ∈ TT, p.1 = P → p.2 = X.env.qual ++ "<lambda>") (hjb : jb + 1 ≤ kc) (SN : NdefX.NScope N [p] [] scope) (hdef : defaultsOf params X.env = ([], [])) (hcl : ∀ cells, cloFrom cells scope.names [] = [])
    (hbind : ∀ (qual : Str) (u : Value) (pm cv ctv : Value), bindArgs (PySem.W.kla_fn "<lambda>" qual params body scope [] pm cv ctv) ⟨[u], []⟩ = pure [(p, u)])
    (hbody : ∀ (Z' : Ext) (f' c' : Addr) (A : Around) (outer : List Env) (s : Shared) (H : Hp) (E : XK) (ow : List Addr), Z'.tabs = TT → Room jb (A.deeper (NdefX.envF (lamNF (X.env.qual ++ "<lambda>") params scope c') f' s.heap.objs.size)) → Gr Z' ow H →
      SimE (NdefX.ncx (L2.CX X.prog X.w) X.prog X.w X.K X.mg X.base N (lamNF (X.env.qual ++ "<lambda>") params scope c') f' A outer s H E) (fun cls d _ H' => E cls d H') Z' (Clb X.prog X.w X.K X.mg X.base kc Z') ow H body wb)
    (hdb : (x == ("__debug__" : Str)) = false := by decide) (hs : starEach [e, .Lambda params body scope lpos] X.env = (false, eval e X.env) :: starEach [.Lambda params body scope lpos] X.env := by rfl) (hpl : (backTo pos (starEach [.Lambda params body scope lpos] X.env)).any (·.1) = false := by rfl)
    (hs2 : starEach [.Lambda params body scope lpos] X.env = (false, eval (.Lambda params body scope lpos) X.env) :: starEach [] X.env := by rfl) :
    SimE X W Z (Clb X.prog X.w X.K X.mg X.base kc Z) ow0 Hb (.Call (.Name x xp) [e, .Lambda params body scope lpos] [] pos)
      (wCallL Φ (fun d R => wb (start0 N [.d d]) (fun y => match y.kp with
        | some x => R x
        | none => False) fun _ => False) we) := by
  obtain ⟨f, fd, ps, h1, h2, h3, h4, h5⟩ := F.ex
  exact sim_callL h2 h1 hT (hr.mono hj) tk hg h3 h4 h5 he TB hcode (by rw [hT]; exact hmT) (by rw [hT]; exact hu) hjb SN hdef hcl hbind hbody hdb hs hpl hs2
end
end Pd

/-! Pd17: loops by invariants. -/
namespace Pd
open PySem PySem.Spec PyProof.Rows L2
theorem room_hu {k : Nat} {A : Around} (r : Room k A) : A.units + 200 < cLine := by have := r.un; omega
theorem forW_inv {b : WB} {body : WS} {E : En} (Inv : List D → Ev → Prop) (step : ∀ d ds ρ (K : Ev → Prop), Inv (d :: ds) ρ → (∀ ρ', Inv ds ρ' → K ρ') → b ρ d fun ρ' => body { E with nx := K, ct := K, bk := E.nx } ρ') (done : ∀ ρ, Inv [] ρ → E.nx ρ) :
    ∀ (ds : List D) (ρ : Ev), Inv ds ρ → forW b body E ds ρ
  | [], ρ, h => done ρ h
  | d :: ds, ρ, h => step d ds ρ (forW b body E ds) h fun ρ' h' => forW_inv Inv step done ds ρ' h'
theorem lcW_inv {b : WB} {tt : WT} {we : WE} {ρ0 : Ev} {P : List D → Prop} (Inv : List D → List D → Prop)
    (step : ∀ d ds acc (K : List D → Prop), Inv (d :: ds) acc → (∀ acc', Inv ds acc' → K acc') → b ρ0 d fun ρ' => tt ρ' (fun c => if c = true then we ρ' (fun y => match y.kp with
      | some e => K (acc ++ [e])
      | none => False) (fun _ => False) else K acc) (fun _ => False)) (done : ∀ acc, Inv [] acc → P acc) : ∀ (ds acc : List D), Inv ds acc → lcW b tt we ρ0 P ds acc
  | [], acc, h => done acc h
  | d :: ds, acc, h => step d ds acc (lcW b tt we ρ0 P ds) h fun acc' h' => lcW_inv Inv step done ds acc' h'
/-- each item made by g -/
theorem lcW_map {b : WB} {we : WE} {ρ0 : Ev} {P : List D → Prop} (g : D → D) {ds : List D} (h : ∀ d ∈ ds, ∀ K : D → Prop, K (g d) → b ρ0 d fun ρ' => we ρ' (fun y => match y.kp with
      | some e => K e
      | none => False) (fun _ => False)) : ∀ {acc : List D}, P (acc ++ ds.map g) → lcW b wYes we ρ0 P ds acc := by
  induction ds with
  | nil =>
    intro acc q
    simpa [lcW] using q
  | cons d ds ih =>
    intro acc q
    unfold lcW
    have := h d List.mem_cons_self (fun e => lcW b wYes we ρ0 P ds (acc ++ [e])) (ih (fun d m => h d (List.mem_cons_of_mem _ m)) (by simpa using q))
    exact this
end Pd

/-! Pd18: the law's end, for a law that is entered with nothing being shown. -/
namespace Pd
open PySem PySem.Spec PyProof.Rows L2
/-- what is tracked at the law's entry: the tables, the script -/
def H0 (K : PySem.W.Frag) (tabs : List Addr) (a : Addr) (o : Obj) (ns : List Int) : Hp := fun b =>
  if b ∈ tabs then some (.tbl #[]) else if b = a ∧ (K.lookup a).isNone = true then some (.frz o (.lst (ns.map V.int))) else none
section
variable {K : PySem.W.Frag} {tabs : List Addr} {a b : Addr} {o : Obj} {ns : List Int}
theorem H0.tab (h : b ∈ tabs) : H0 K tabs a o ns b = some (.tbl #[]) := if_pos h
theorem H0.no (h : b ∉ tabs) (h2 : ¬ (b = a ∧ (K.lookup a).isNone = true)) : H0 K tabs a o ns b = none := by
  unfold H0
  rw [if_neg h, if_neg h2]
theorem H0.scr (h : a ∉ tabs) (h2 : K.lookup a = none) : H0 K tabs a o ns a = some (.frz o (.lst (ns.map V.int))) := by
  unfold H0
  rw [if_neg h, if_pos ⟨rfl, by rw [h2]; rfl⟩]
theorem H0.cases {u : HO} (h : H0 K tabs a o ns b = some u) : (b ∈ tabs ∧ u = .tbl #[]) ∨ (b = a ∧ K.lookup a = none ∧ u = .frz o (.lst (ns.map V.int))) := by
  unfold H0 at h
  split at h
  · rename_i m
    exact .inl ⟨m, (Option.some.inj h).symm⟩
  · split at h
    · rename_i m
      refine .inr ⟨m.1, ?_, (Option.some.inj h).symm⟩
      cases q : K.lookup a with
      | none => rfl
      | some v => rw [q] at m; cases m.2
    · cases h
end
abbrev scrO (vs : List Value) : Obj := { cls := .type "list", data := .seq vs.toArray }
abbrev tabO : Obj := { cls := .none, data := .fields #[] }
theorem law_run {P : Program} {w : World} {K : PySem.W.Frag} {mg mb : Str → Option Value} {k : Nat} {fa a : Addr} {cs : List (Addr × Addr)} {fd : FuncData} {x : Str} {sp : Sp} {s : Shared} {vs : List Value} {ns : List Int}
    (kin : K.In s.heap) (glob : s.heap.Ns mainGlobals mg) (blt : s.heap.Ns builtinsNs mb) (bltIs : ∀ x : Str, x ≠ "__name__" → mb x = bootBuiltins x) (lim : s.heap.NoLimit) (noGens : s.gens = #[])
    (tabAt : ∀ p ∈ cs, s.heap.get? p.2 = some tabO) (tabK : ∀ p ∈ cs, K.lookup p.2 = none) (code : ∀ p ∈ cs, PySem.W.CodeHd s.heap p.1 p.2)
    (bmod : ∃ (bm : Addr) (ob : Obj), mg "__builtins__" = some (.ref bm) ∧ bm ≠ builtinsNs ∧ s.heap.get? bm = some ob ∧ ob.cls = .type "module" ∧ ob.dict = some builtinsNs ∧ ob.data = .plain)
    (scr : s.heap.get? a = some (scrO vs)) (areInts : IntsAre vs ns) (few : ns.length ≤ sizeLine) (hr : Room k callerA)
    (F : ∀ base : Heap, K.In base → base.Ns mainGlobals mg → (∀ p ∈ cs, LamX.TabB base mg p.1 p.2) → GnOk P w K mg base k fa fd [x] sp) (bnd : ∀ (s : Shared) (u : Value), BindsTo s fd ⟨[u], []⟩ [(x, u)])
    (start : ∀ H : Hp, (∀ p ∈ cs, H p.2 = some (.tbl #[])) → SqL K H a (ns.map V.int) → sp [.ref a] H (fun v _ => v = .bl true) fun _ _ _ => False) :
    codeAny (model P w) callerA (.call (.ref fa) ⟨[.ref a], []⟩) (fun r s' => r = .ok (.ret (.bool true)) ∧ OldK s.heap s'.heap ∧ s'.os = s.os ∧ AllBare s'.gens) s := by
  have rel := vals_ints areInts
  have many := areInts.length
  have inTab : ∀ {b}, b ∈ cs.map (·.2) → s.heap.get? b = some tabO := fun {b} m => by
    obtain ⟨p, hp, rfl⟩ := List.mem_map.mp m
    exact tabAt p hp
  have aNo : a ∉ cs.map (·.2) := fun m => by
    have q := (inTab m).symm.trans scr
    have z : Data.fields #[] = Data.seq vs.toArray 0 := congrArg Obj.data (Option.some.inj q)
    cases z
  generalize hH : H0 K (cs.map (·.2)) a (scrO vs) ns = H
  have onTab : ∀ p ∈ cs, H p.2 = some (.tbl #[]) := fun p hp => by rw [← hH]; exact H0.tab (List.mem_map.mpr ⟨p, hp, rfl⟩)
  have split : ∀ {b u}, H b = some u → (b ∈ cs.map (·.2) ∧ u = .tbl #[]) ∨ (b = a ∧ K.lookup a = none ∧ u = .frz (scrO vs) (.lst (ns.map V.int))) := fun {b u} e => H0.cases (by rw [hH]; exact e)
  have held : HOk P w H s.heap := fun b u e => by
    rcases split e with ⟨m, rfl⟩ | ⟨rfl, _, rfl⟩
    · exact inTab m
    · exact ⟨scr, by rw [List.length_map]; exact few, vs, _, rel, scr⟩
  have isScr : SqL K H a (ns.map V.int) := by
    cases q : K.lookup a with
    | none => exact .inl (.inr ⟨scrO vs, by rw [← hH]; exact H0.scr aNo q⟩)
    | some o =>
      have e := (kin a o q).symm.trans scr
      cases e
      exact .inr ⟨_, vs.toArray, _, q, rfl, rfl, rfl, by rw [List.size_toArray, many]; exact few, by simpa using rel⟩
  -- what is neither a table nor the script is not tracked
  have free : ∀ {b : Addr} {o : Obj}, s.heap.get? b = some o → (∀ us n, o.data ≠ .seq us n) → o.data ≠ .fields #[] → H b = none := fun {b o} e n1 n2 => by
    cases q : H b with
    | none => rfl
    | some u =>
      rcases split q with ⟨m, _⟩ | ⟨rfl, _, _⟩
      · have z := (inTab m).symm.trans e
        cases z
        exact (n2 rfl).elim
      · have z := scr.symm.trans e
        cases z
        exact (n1 _ _ rfl).elim
  have kept : ∀ {b : Addr} {o : Obj}, s.heap.get? b = some o → (∀ us n, o.data ≠ .seq us n) → o.data ≠ .fields #[] → (hidT s.heap H).get? b = some o := fun e n1 n2 => hidT_get e (free e n1 n2)
  have ns' : ∀ {b : Addr} {m : Str → Option Value}, s.heap.Ns b m → (hidT s.heap H).Ns b m := fun {b m} ⟨o, es, ep, e, d, r⟩ => ⟨o, es, ep, kept e (fun us n z => by rw [d] at z; cases z) (fun z => by rw [d] at z; cases z), d, r⟩
  have kin' : K.In (hidT s.heap H) := fun b o e => hidT_get (kin b o e) (by
    cases q : H b with
    | none => rfl
    | some u =>
      rcases split q with ⟨m, _⟩ | ⟨rfl, z, _⟩
      · obtain ⟨p, hp, rfl⟩ := List.mem_map.mp m
        rw [tabK p hp] at e
        cases e
      · rw [z] at e
        cases e)
  have tb : ∀ p ∈ cs, LamX.TabB (hidT s.heap H) mg p.1 p.2 := fun p hp => by
    refine ⟨?_, ?_, fun z => ?_⟩
    · obtain ⟨oc, us, file, tf, flags, tg, inF, text, tt, e1, r1, r2, r3, rest⟩ := code p hp
      refine ⟨oc, us, file, tf, flags, tg, inF, text, tt, kept e1 (fun us n z => by rw [r2] at z; cases z) (fun z => ?_), r1, r2, r3, rest⟩
      rw [r2] at z
      cases z
      simp at r3
    · obtain ⟨bm, ob, b1, b2, b3, b4, b5, b6⟩ := bmod
      refine ⟨bm, ob, b1, b2, fun q => ?_, fun q => ?_, kept b3 (fun us n z => by rw [b6] at z; cases z) (fun z => by rw [b6] at z; cases z), b4, b5, b6⟩
      · obtain ⟨o, es, ep, e, hd, _⟩ := glob
        rw [← q, b3] at e
        cases e
        rw [hd] at b6
        cases b6
      · rw [q, tabAt p hp] at b3
        cases b3
        cases b6
    · obtain ⟨o, es, ep, e, hd, _⟩ := glob
      rw [z, tabAt p hp] at e
      cases e
      cases hd
  have entry : Env0 P w K mg (hidT s.heap H) callerA [] s H := ⟨rfl, ⟨kin', ns' glob, ⟨mb, ns' blt, bltIs⟩, let ⟨mc, h1, h2⟩ := lim; ⟨mc, ns' h1, h2⟩⟩, fun b o e => of_hidT e, Nat.le_of_eq (hidT_size _ _), trivial, fun b hb => absurd hb (by simp [frs]), held, .of_eq noGens⟩
  refine codeAny_mono ((F _ kin' (ns' glob) tb).run callerA [] s H ⟨[.ref a], []⟩ [.ref a] [.ref a] _ _ rfl hr entry (bnd s (.ref a)) (.cons rfl .nil) (start H onTab isScr)) fun r s' out => ?_
  rcases r with e | fl
  · obtain ⟨_, _, _, _, _, _, _, _, _, _, _, _, z⟩ := out
    exact z.elim
  · cases fl with
    | next => exact False.elim out
    | brk => exact False.elim out
    | cont => exact False.elim out
    | ret u =>
      obtain ⟨v, H', os, bare, un, held', rv, q⟩ := out
      obtain rfl : v = .bl true := q
      obtain rfl : u = Value.bool true := rv
      have stays : ∀ b o, b ∉ cs.map (·.2) → s.heap.get? b = some o → s'.heap.get? b = some o := fun b o nb e => by
        cases q : H b with
        | none => exact un.keep b o e q (by simp [frs]) (by simp)
        | some u =>
          rcases split q with ⟨m, _⟩ | ⟨_, _, rfl⟩
          · exact absurd m nb
          · obtain ⟨e1, _⟩ := held b _ q
            obtain ⟨e2, _⟩ := held' b _ (un.frzs b _ _ q)
            rw [e1] at e
            cases e
            exact e2
      have grew : ∀ p ∈ cs, ∃ more : Array Value, s'.heap.get? p.2 = some { cls := .none, data := .fields more } := fun p hp => by
        obtain ⟨more, z⟩ := un.tbls p.2 #[] (onTab p hp)
        exact ⟨_, held' p.2 _ z⟩
      refine ⟨rfl, ⟨fun b o e => ?_, fun b o e => ?_⟩, os, bare⟩
      · by_cases m : b ∈ cs.map (·.2)
        · obtain ⟨p, hp, rfl⟩ := List.mem_map.mp m
          obtain ⟨more, hm⟩ := grew p hp
          have z := (tabAt p hp).symm.trans e
          cases z
          exact .inr (.inl ⟨((code p hp).tab (tabAt p hp)).isCodeTable, rfl, #[], more, rfl, by rw [Array.empty_append]; exact hm⟩)
        · exact .inl (stays b o m e)
      · by_cases m : b ∈ cs.map (·.2)
        · obtain ⟨p, hp, rfl⟩ := List.mem_map.mp m
          obtain ⟨more, hm⟩ := grew p hp
          exact ⟨_, hm⟩
        · exact ⟨o, stays b o m e⟩
/-- what the head gives of the law -/
def LawAtG (l : PySem.W.OpenLaw) (w : World) (K : PySem.W.Frag) (k n : Nat) (x : Str) (mg : Str → Option Value) (fa : Addr) (h : Heap) : Prop :=
  ∃ (fd : FuncData) (cs : List (Addr × Addr)) (sp : Sp), (∀ p ∈ cs, h.get? p.2 = some tabO) ∧ (∀ p ∈ cs, K.lookup p.2 = none) ∧ (∀ p ∈ cs, PySem.W.CodeHd h p.1 p.2) ∧ (∀ (s : Shared) (u : Value), BindsTo s fd ⟨[u], []⟩ [(x, u)]) ∧
    (∀ (H : Hp) (a : Addr) (ns : List Int), ns.length ≤ n → (∀ p ∈ cs, H p.2 = some (.tbl #[])) → SqL K H a (ns.map V.int) → sp [.ref a] H (fun v _ => v = .bl true) fun _ _ _ => False) ∧
    ∀ base : Heap, K.In base → base.Ns mainGlobals mg → (∀ p ∈ cs, LamX.TabB base mg p.1 p.2) → GnOk l.prog w K mg base k fa fd [x] sp
theorem law_walk {l : PySem.W.OpenLaw} {n k : Nat} {q : Program} {loose : List Str} {XP : (Str → Option Value) → Heap → Prop} {YP : World → Heap → Prop} {d : DefRec} {K : Params → PySem.W.Frag} {x : Str}
    (hn : l.most = some n) (hn2 : n ≤ sizeLine) (hdf : d.params.defaults = []) (hr : Room k callerA) (hY : ∀ (w : World) (h : Heap), YP w h → (K w.params).In h)
    (F : ∀ (w : World) (mg : Str → Option Value) (fa : Addr) (h : Heap), YP w h → (K w.params).In h → h.Ns mainGlobals mg → mg d.name = some (.ref fa) → LawAtG l w (K w.params) k n x mg fa h) :
    PySem.W.WalkO q loose XP YP l.row.toRowW d [] (fun f vs => PySem.call f vs) := by
  refine Att.attach_callB hn hdf fun w s₀ s mg mb fa o pm cd doc a vs ns G Y ho hd hcd hmg scr areInts few bits noGens => ?_
  obtain ⟨fd, cs, sp, tabAt, tabK, code, bnd, start, run⟩ := F w mg fa _ Y (hY w _ Y) G.T.g hmg
  exact law_run (hY w _ Y) G.T.g G.T.b G.T.builtins G.T.nolimit noGens tabAt tabK code G.T.bmain scr areInts (Nat.le_trans few hn2) hr run bnd fun H h1 h2 => start H a ns few h1 h2
end Pd

/-! Pd19: the law's bag made from the script; the law by what stands behind it. -/
namespace Pd
open PySem PySem.Spec PyProof.Rows L2
def spBag (K : PySem.W.Frag) (TT : List (Addr × Str)) : Sp := fun vs H Q _ => ∃ (a : Addr) (ns : List Int), vs = [.ref a] ∧ SqL K H a (ns.map V.int) ∧ ns.length ≤ 63 ∧ LamX.Tabs TT H ∧ ∀ b c H', LamX.Tabs TT H' → BagAt H' b c → Q (.ref b) H'
def spLaw (K : PySem.W.Frag) (TT : List (Addr × Str)) : Sp := fun vs H Q _ => ∃ (a : Addr) (ns : List Int), vs = [.ref a] ∧ SqL K H a (ns.map V.int) ∧ ns.length ≤ 63 ∧ LamX.Tabs TT H ∧ ∀ H', Q (.bl true) H'
def noBag (TT : List (Addr × Str)) : Ext := ⟨none, TT, []⟩
theorem gr_noBag {TT : List (Addr × Str)} {H : Hp} (h : LamX.Tabs TT H) : Gr (noBag TT) [] H := by
  refine ⟨⟨True.intro, h, ?_⟩, ?_, ?_⟩ <;> (intro x m; exact absurd m (by simp [noBag, fp, fpB]))
theorem SqL.same {K : PySem.W.Frag} {H H' : Hp} {a : Addr} {xs : List V} (h : SqL K H a xs) (e : SameBut [] H H') : SqL K H' a xs := by
  rcases h with (h | ⟨o, h⟩) | h
  · exact .inl (.inl (e a _ (by simp) nt_lst h))
  · exact .inl (.inr ⟨o, e a _ (by simp) (fun ps z => by cases z) h⟩)
  · exact .inr h
def isScr (a : Addr) : Calls := fun f _ => f = a
def fn0 : Fn1 := fun _ _ => False
section
variable {X : Cx} {W : WX} {TT : List (Addr × Str)} {Hb : Hp} {a : Addr} {ns : List Int}
def wScr (ns : List Int) : WI := fun ρ P _ => ρ[0]? = some (some (.fn a fn0)) ∧ P (ns.map .int)
theorem sim_scr {tg : Expr} {x : Str} {xp p2 p3 pos : Pos} {j : Nat} (hS : SqL X.K Hb a (ns.map V.int)) (few : ns.length ≤ 63) (hN : X.N[0]? = some x := by rfl) (hv : Vis X.env.scope x := by first | exact Or.inl rfl | exact Or.inr (Or.inl rfl) | exact Or.inr (Or.inr rfl))
    (hd : (x == ("__debug__" : Str)) = false := by decide) (hcd : (x == ("__classdict__" : Str)) = false := by decide) :
    SimI X W (noBag TT) (isScr a) [] Hb tg (.Subscript (.Name x xp) (.Slice none (some (.Constant (.int 63) j p3)) none p2) pos) (wScr (a := a) ns) := by
  intro S ρ σ H ow P Ex R r w g b
  obtain ⟨v, h1, rfl, _⟩ := r.val 0 _ w.1
  have now : SqL X.K H a (ns.map V.int) := SqL.same hS r.sb
  refine PIat.of (pi_list (pe_slice sl_list (pe_var hN hv hd hcd) po_none (po_some pe_int))) ⟨.ref a, h1, 63, rfl, a, _, rfl, now, fun p hp => ⟨p, rfl, ⟨_, .inl (.of upd_same)⟩, ?_⟩⟩
  have cut : cutV (ns.map V.int) none (some 63) = ns.map V.int := by
    unfold cutV
    simp only [HT.sIx, List.length_map]
    rw [if_neg (by decide)]
    have e : min (63 : Int).toNat ns.length = ns.length := by omega
    rw [e]
    exact List.take_of_length_le (by simp)
  have np : p ∉ ow := r.gr.no (.of hp)
  have le := Le.new (o := .lst (ns.map V.int)) hp
  rw [cut]
  refine g _ _ _ w.2 (.of_le le) (r.gr.ext.le le) (itD_lst (vs := ns.map V.int) (hid_of np upd_same nt_lst) (DtAll.ofInts ns)) fun _ => ?_
  rw [List.length_map, sizeLine_eq]
  omega
end
def wBagOf (a : Addr) (ns : List Int) : WS := wRetO (wLst (wCons (wC (.int 0)) (wCons (wC (.int 1234567891)) (wCons (wC (.int 0)) (wCons (wLc (wScr (a := a) ns) (bName 1) wYes (wCB bAbs (wCons (wVar 1) wNil)) [1]) wNil)))))
def absI (i : Int) : Int := if i < 0 then -i else i
def bagEnd (ns : List Int) : En := { nx := fun _ => False, rt := fun y => y = .own [.int 0, .int 1234567891, .int 0, .list ((ns.map absI).map .int)] }
theorem bag_vc (a : Addr) (ns : List Int) : wBagOf a ns (bagEnd ns) [some (.fn a fn0), none] := by
  refine ⟨rfl, lcW_map (fun d => match d with
    | .int i => .int (absI i)
    | d => d) (fun d m K hK => ?_) ?_⟩
  · obtain ⟨i, _, rfl⟩ := List.mem_map.mp m
    exact hK
  · refine ⟨by rw [sizeLine_eq]; show 4 ≤ _; omega, ?_⟩
    show Val.own _ = Val.own _
    simp [Function.comp_def]
section
variable {P : Program} {w : World} {K : PySem.W.Frag} {mg : Str → Option Value} {base : Heap} {TT : List (Addr × Str)}
theorem bag_fn {st : Stmt} {f : Addr} {fd : FuncData} {k : Nat} (F : Fun K "_law_bag" "_law_bag" st f fd) (S : FnScope ["script", "cell"] ["script"] (defScope st))
    (hbody : ∀ (cdv : Value) (A : Around) (outer : List Env) (s : Shared) (H : Hp) (E : XK) (a : Addr) (ns : List Int), SqL K H a (ns.map V.int) → ns.length ≤ 63 → Gr (noBag TT) [] H →
      SimSs (cxOf (L2.CX P w) P w K mg base ["script", "cell"] "_law_bag" (defScope st) f cdv A outer s H E) W0 (noBag TT) (isScr a) [] H (defBody st) (wBagOf a ns)) : FnOk P w K mg base (L2.CX P w) (k + 1) f fd ["script"] (spBag K TT) := by
  refine F.okX S (fun vs H Q E ⟨a, ns, e, _⟩ => by rw [e]; rfl) fun cdv A outer s H vs Q E hr h => ?_
  obtain ⟨a, ns, rfl, hS, few, hT, done⟩ := h
  have gr := gr_noBag hT
  refine ⟨_, PSsat.ps, ?_⟩
  refine hbody cdv A outer s H E a ns hS few gr (hid [] H) [some (.fn a fn0), none] _ H [] (bagEnd ns) _ ⟨gr, rfl, .refl _ _, fun _ m => m, .refl _, fun i y e => ?_, fun i j xs ys p n e1 e2 _ _ => ?_⟩ (bag_vc a ns) ⟨fun _ _ _ _ p _ => p.elim, fun _ _ _ _ p _ => p.elim, fun _ _ _ _ p _ => p.elim, fun y v H' p e z hv => ?_, fun _ _ _ _ _ _ _ p _ _ => p.elim⟩
  · match i, e with
    | 0, e => cases e; exact ⟨.ref a, rfl, rfl, rfl⟩
    | 1, e => cases e
    | i + 2, e => cases e
  · match i, e1 with
    | 0, e => cases e
    | 1, e => cases e
    | i + 2, e => cases e
  · cases p
    obtain ⟨b, vs, rfl, hn, _, hb, hd⟩ := hv
    cases hd with
    | cons d1 hd =>
      cases d1
      cases hd with
      | cons d2 hd =>
        cases d2
        cases hd with
        | cons d3 hd =>
          cases d3
          cases hd with
          | cons d4 hd =>
            cases hd
            cases d4 with
            | lst hc hcs =>
              rename_i c cv
              obtain ⟨m, hc', _⟩ := hid_some hc
              have e := hcs.ints
              subst e
              refine done b c H' z.tabs ⟨0, 1234567891, 0, ns.map absI, hb, hc', by decide, by decide, by decide, by decide, fun n hn => ?_, by rw [List.length_map]; exact few, fun q => m (by rw [q]; exact List.mem_cons_self)⟩
              obtain ⟨i, _, rfl⟩ := List.mem_map.mp hn
              unfold absI
              split <;> omega
/-- what the law is to do behind the bag's making -/
def lawEnd : En := { nx := fun _ => False, rt := fun y => y = .d (.bool true) }
def lawStart (N : List Str) : Ev := none :: some .bag :: List.replicate (N.length - 2) none
theorem law_fn {st : Stmt} {f fB : Addr} {fd fdB : FuncData} {N : List Str} {k kb kc : Nat} {wb : WS} {p1 p2 p3 p4 p5 : Pos} (F : Fun K "law" "law" st f fd) (S : FnScope N ["script"] (defScope st)) (hb : defBody st = .Assign [.Name "bag" p1] (.Call (.Name "_law_bag" p2) [.Name "script" p3] [] p4) p5 :: (defBody st).tail)
    (FB : FnOk P w K mg base (L2.CX P w) kb fB fdB ["script"] (spBag K TT)) (hkb : kb ≤ k) (hmB : mg "_law_bag" = some (.ref fB)) (hkB : PySem.W.keepIn K (.ref fB) = true) (hbB : Binds K fdB ["script"] [])
    (h0 : N[0]? = some ("script" : Str)) (h1 : N[1]? = some ("bag" : Str)) (v0 : Vis (defScope st) "script") (l1 : Loc (defScope st) "bag") (g1 : (defScope st).names.lookup ("_law_bag" : Str) = some .globalImplicit)
    (hbody : ∀ (cdv : Value) (A : Around) (outer : List Env) (s : Shared) (H : Hp) (E : XK) (Z : Ext) (ow : List Addr) (Hb : Hp), CodeOf K f cdv → (cxOf (L2.CX P w) P w K mg base N "law" (defScope st) f cdv A outer s H E).A.guards = some [] → Room k (cxOf (L2.CX P w) P w K mg base N "law" (defScope st) f cdv A outer s H E).A → Z.tabs = TT → Gr Z ow Hb →
      SimSs (cxOf (L2.CX P w) P w K mg base N "law" (defScope st) f cdv A outer s H E) (fun cls d _ H' => E cls d H') Z (Clb P w K mg base kc Z) ow Hb (defBody st).tail wb)
    (hv : wb lawEnd (lawStart N)) : GnOk P w K mg base (k + 1) f fd ["script"] (spLaw K TT) := by
  obtain ⟨oc, od, kV, doc, pm, an, cdv, ct, osl, rfl, lk, hcd⟩ := F.ex
  refine ⟨fun vs H Q E ⟨a, ns, e, _⟩ => by rw [e]; rfl, fun A outer s H args us vs Q E hg hr e0 hbd rv h => ?_⟩
  obtain ⟨a, ns, rfl, hS, few, hT, done⟩ := h
  refine LamX.run_ofS lk hcd S hr e0 hbd rv rfl fun hr' => ?_
  have hlen : 2 ≤ N.length := by
    have := (List.getElem?_eq_some_iff.mp h1).1
    omega
  have glob : Gl (cxOf (L2.CX P w) P w K mg base N "law" (defScope st) f cdv A outer s H E) "_law_bag" := g1
  let W' : WX := fun cls d _ H' => E cls d H'
  rw [hb]
  refine ⟨_, pss_cons (ps_set (X := cxOf (L2.CX P w) P w K mg base N "law" (defScope st) f cdv A outer s H E) (i := 1) S.nd h1 l1 (pe_callSD (E := L2.WE W0) FB (hr'.mono hkb) glob hmB hkB hbB .nil (fun σ => passAt LamX.takes0 σ) (pa_cons (pe_var (i := 0) h0 v0 (by decide) (by decide)) pa_nil)) rfl) (PSsat.ps (st := (defBody st).tail)), ?_⟩
  refine ⟨.ref a, rfl, a, ns, rfl, hS, few, hT, fun b c H1 T1 B1 => ?_⟩
  have rz : RZ ⟨some (b, c), TT, []⟩ H1 := ⟨B1, T1, fun p m => by cases m⟩
  have gr : Gr ⟨some (b, c), TT, []⟩ [b, c] H1 := ⟨rz, fun x m => m, fun x m => by
    obtain ⟨us, e⟩ := RB.lists (z := some (b, c)) B1 x m
    exact ⟨_, nt_lst, e⟩⟩
  refine hbody cdv A outer s H E _ [b, c] H1 ⟨_, _, _, _, lk, rfl⟩ hg hr' rfl gr (hid [b, c] H1) (lawStart N) _ H1 [b, c] lawEnd _ ⟨gr, ?_, .refl _ _, fun _ m => m, .refl _, fun i y e => ?_, fun i j xs ys p n e1 e2 _ _ => ?_⟩ hv ⟨fun _ _ _ _ p _ => p.elim, fun _ _ _ _ p _ => p.elim, fun _ _ _ _ p _ => p.elim, fun y v H' p e z hv => ?_, fun _ _ _ _ _ _ _ p _ _ => p.elim⟩
  · unfold lawStart L2.start
    simp
    omega
  · match i, e with
    | 0, e => cases e
    | 1, e =>
      cases e
      refine ⟨.ref b, ?_, b, c, rfl, rfl⟩
      show ((L2.start N [.ref a]).set 1 (some (.ref b)))[1]? = _
      rw [List.getElem?_set_self]
      unfold L2.start
      simp
      omega
    | i + 2, e =>
      unfold lawStart at e
      rw [List.getElem?_cons_succ, List.getElem?_cons_succ, List.getElem?_replicate] at e
      split at e <;> cases e
  · match i, e1 with
    | 0, e => cases e
    | 1, e => cases e
    | i + 2, e =>
      unfold lawStart at e
      rw [List.getElem?_cons_succ, List.getElem?_cons_succ, List.getElem?_replicate] at e
      split at e <;> cases e
  · cases p
    have hv : Dt K (hid [b, c] H') v (.bool true) := hv
    cases hv
    exact done H'
end

/-- an error of the class at C is what «except C» names -/
theorem exm_of {K : PySem.W.Frag} {C : Addr} (b : PySem.W.subIn K (.ref C) (.type "BaseException") = some true) (i : PySem.W.isClsIn K C = true) (t : PySem.W.typeIn K (.ref C) = some (.type "type")) (r : PySem.W.subIn K (.ref C) (.ref C) = some true) : PySem.W.exmOne K (.ref C) (.ref C) = some true := by
  have isC : (PySem.W.clsIn K C).isSome = true := i
  have ok1 : (PySem.W.subIn K (.ref C) (.type "BaseException") == some true) = true := by rw [b]; rfl
  have ok2 : ((PySem.W.clsIn K C).isSome && PySem.W.typeIn K (.ref C) == some (.type "type")) = true := by rw [isC, t]; rfl
  refine Eq.trans (if_pos ok1) (Eq.trans (if_pos ok2) r)
end Pd

/-! Pd20: enumerate of lists and tuples, zip. -/
namespace Pd
open PySem PySem.Spec PyProof.Rows L2
/-! ### enumerate of a tuple -/
set_option maxHeartbeats 1000000 in
theorem enumT_new (a : Addr) (items : Array Value) (o : Obj) (hc : o.cls = .type "tuple") (hn : ∃ n, o.data = .seq items n) :
    Meets (Builtin.«enumerate.__new__» ⟨[.type "enumerate", .ref a], []⟩) (fun _ R s => s.heap.get? a = some o ∧
      R (.ok (.ret (.ref (s.heap.push { cls := .type "tuple_iterator", data := .fields #[.ref a, .int 0 0] }).objs.size)))
        { s with heap := (s.heap.push { cls := .type "tuple_iterator", data := .fields #[.ref a, .int 0 0] }).push { cls := .type "enumerate", data := .fields #[.none, .bool false, .ref s.heap.objs.size, rawInt 0, .none, .none] } }) :=
  .of_wp fun prog w A R s hyp => by
    obtain ⟨hp, gg, dd, tk, os⟩ := s
    obtain ⟨at_, fin⟩ := hyp
    obtain ⟨oc, od, oda, osl⟩ := o
    obtain ⟨n, hn⟩ := hn
    simp only at hc hn
    subst hc
    subst hn
    have subE := sub_enumerate
    have isT : Heap.IsTuple (Shared.heap ⟨hp, gg, dd, tk, os⟩) a items := ⟨_, at_, rfl, n, rfl⟩
    wp_walk using AutoSeq1.wpAny_loadPart' at_
    refine wpAny_stack_any fun st => wpAny_pure ?_
    split
    · rename_i c _ _ _ _ _
      cases (c == Value.type "enumerate")
      · wp_walk using AutoSeq1.wpAny_loadPart' at_, wpAny_pyIter_tuple isT
        exact ⟨_, rfl, fin⟩
      · wp_walk using AutoSeq1.wpAny_loadPart' at_, wpAny_pyIter_tuple isT
        exact ⟨_, rfl, fin⟩
    · wp_walk using AutoSeq1.wpAny_loadPart' at_, wpAny_pyIter_tuple isT
      exact ⟨_, rfl, fin⟩
section
variable {prog : Program} {w : World} {A : Around} {E : Value → Shared → Prop} {s : Shared}
theorem enumT_call {a : Addr} {items : Array Value} {Q : Value → Shared → Prop} (isT : s.heap.IsTuple a items)
    (fin : ∀ h', IsEnum h' (s.heap.objs.size + 1) s.heap.objs.size 0 .none → h'.IsTupleIter s.heap.objs.size a 0 → (∀ b o, s.heap.get? b = some o → h'.get? b = some o) → Q (.ref (s.heap.objs.size + 1)) { s with heap := h' }) :
    wpAny (model prog w) A (call (.type "enumerate") [.ref a]) Q E s := by
  obtain ⟨o, at_, hc, n, hd⟩ := isT
  refine callType_new F.called_enumerate (by decide) (F.typeCall_enumerate_1 _) (F.newCall_enumerate_1 _) (fun obj => F.args_object_init_2 obj _) F.entry_enumerate_new (enumT_new a items o hc ⟨n, hd⟩) ⟨at_, ?_⟩
  have grown : (s.heap.push { cls := .type "tuple_iterator", data := .fields #[.ref a, .int 0 0] }).objs.size = s.heap.objs.size + 1 := Heap.size_push ..
  show _ ∧ _
  rw [grown]
  have isE : IsEnum ((s.heap.push { cls := .type "tuple_iterator", data := .fields #[.ref a, .int 0 0] }).push { cls := .type "enumerate", data := .fields #[.none, .bool false, .ref s.heap.objs.size, rawInt 0, .none, .none] }) (s.heap.objs.size + 1) s.heap.objs.size 0 .none := by
    have z := Heap.get?_push_size (s.heap.push { cls := .type "tuple_iterator", data := .fields #[.ref a, .int 0 0] }) (o := { cls := .type "enumerate", data := .fields #[.none, .bool false, .ref s.heap.objs.size, rawInt 0, .none, .none] }) rfl
    rw [grown] at z
    exact z
  exact ⟨⟨_, isE, rfl⟩, fin _ isE ⟨_, Heap.get?_push_of_some _ (Heap.get?_push_size _ rfl), rfl, rfl⟩ fun b o q => Heap.get?_push_of_some _ (Heap.get?_push_of_some _ q)⟩
end
/-- the tuple's items with their places, in new pairs -/
def IteT (K : PySem.W.Frag) (a : Addr) : It :=
  ⟨fun i H => ∃ (xs : List V) (x : V), SqT K H a xs ∧ xs[i]? = some x, fun i H v H' => ∃ T x, v = .ref T ∧ H T = none ∧ H' = upd H T (.tup [.int (i : Nat), x]) ∧ ∀ xs, SqT K H a xs → xs[i]? = some x, fun i H => ∃ xs : List V, SqT K H a xs ∧ xs.length = i⟩
theorem turn_enumT {P : Program} {w : World} {K : PySem.W.Frag} {elts : List Expr} {kk : Nat} {tpos : Pos} {a e it : Addr} (hae : a ≠ e) (hai : a ≠ it) :
    Turn P w K (.Tuple elts kk tpos) (IteT K a) [e, it] e (fun i h => (∃ old, IsEnum h e it ((i : Nat) : Int) old) ∧ h.IsTupleIter it a i ∧ e ≠ it) where
  mem := by simp
  obj := fun i h st b hb => by
    obtain ⟨⟨old, isE⟩, ⟨o, at_, _, dat⟩, _⟩ := st
    rcases (by simpa using hb : b = e ∨ b = it) with rfl | rfl
    · exact ⟨_, isE, fun v q => nomatch q⟩
    · exact ⟨o, at_, fun v q => by rw [dat] at q; cases q⟩
  keep := fun i h h' st k => let ⟨⟨old, isE⟩, isI, ne⟩ := st; ⟨⟨old, k e (by simp) _ isE⟩, isI.at fun o q => k it (by simp) o q, ne⟩
  item := by
    intro X hP hw hK calm i pins s σ H E I hf st go
    subst hP hw hK
    obtain ⟨⟨old, isE⟩, isI, ne⟩ := st
    obtain ⟨xs, x, tup, at_⟩ := go
    obtain ⟨its, rv, isT, _⟩ := I.tuple tup
    obtain ⟨u, hu, ru⟩ := rv.get at_
    have lt : i < its.toArray.size := by simpa using (List.getElem?_eq_some_iff.mp hu).1
    have el : e < s.heap.objs.size := Heap.lt_size isE
    have il : it < s.heap.objs.size := by obtain ⟨_, q, _⟩ := isI; exact Heap.lt_size q
    have quiet : X.A.in1.handled = none := by simpa using I.ok.hd calm
    refine wpAny_pyNext_enum_itemD (Draws.tuple quiet it a hai its.toArray) isE ⟨isI, isT⟩ lt ne (by simpa using ⟨ne, fun q => hae q.symm⟩) fun v h' tk hv out st' pair size kept => ?_
    refine ⟨_, rfl, wpAny_letOwnedTupleGo_enum (s := { s with heap := h', toks := tk + 1 }) out fun h2 isE2 same => ?_⟩
    obtain rfl : v = u := by
      have z : its.toArray[i]? = some u := by simpa using hu
      rw [z] at hv
      exact (Option.some.inj hv).symm
    have pair2 : h2.get? s.heap.objs.size = some { cls := .type "tuple", data := .seq #[.int i tk, v] } := (same.2 _ (Nat.ne_of_gt el)).trans pair
    have new : ObjOk X.prog X.w (upd H s.heap.objs.size (.tup [.int (i : Nat), x])) h2 s.heap.objs.size (.tup [.int (i : Nat), x]) := ⟨by show 2 ≤ sizeLine; decide, [.int i tk, v], .cons ⟨_, rfl⟩ (.cons ru .nil), ⟨_, pair2, rfl, _, rfl⟩⟩
    have J : Inv X pins σ (upd H s.heap.objs.size (.tup [.int (i : Nat), x])) { s with heap := h2, toks := tk + 1 } :=
      I.turnedNew (ch := [e, it]) (fun b o hb q => (same.2 b (fun z => hb (by simp [z]))).trans (kept b o (fun z => hb (by simp [z])) (fun z => hb (by simp [z])) q)) hf (Nat.le_refl _) new
    refine ⟨.ref s.heap.objs.size, _, J, rfl, ⟨_, x, rfl, I.hok.fresh (Nat.le_refl _), rfl, fun ys hy => by rw [I.tuple_inj hy tup]; exact at_⟩, ⟨⟨v, ?_⟩, st'.1.at fun o q => (same.2 it (Ne.symm ne)).trans q, ne⟩, fun b hb => ?_⟩
    · have step : ((i + 1 : Nat) : Int) = (i : Int) + 1 := by omega
      rw [step]
      exact isE2
    · have bl : b < s.heap.objs.size := by
        rcases (by simpa using hb : b = e ∨ b = it) with rfl | rfl
        · exact el
        · exact il
      rw [upd_ne (Nat.ne_of_lt bl)]
      exact (hf b hb).1
  done := by
    intro X hP hw hK calm i pins s σ H E I hf st stop
    subst hP hw hK
    obtain ⟨⟨old, isE⟩, isI, ne⟩ := st
    obtain ⟨xs, tup, rfl⟩ := stop
    obtain ⟨its, rv, isT, _⟩ := I.tuple tup
    obtain ⟨f0, f1, f2, f3, f4, f5⟩ := hf it (by simp)
    have quiet : X.A.in1.handled = none := by simpa using I.ok.hd calm
    have size : xs.length = its.toArray.size := by rw [List.size_toArray, rv.length]
    rw [size] at isE isI
    exact wpAny_pyNext_enum_endD (Draws.tuple quiet it a hai its.toArray) isE ⟨isI, isT⟩ fun h' ext => ⟨rfl, I.turned (t' := s.toks) (fun b o hb q => ext b o hb q) f0 f1 f3 f4 f5⟩
  self := fun A i s Q E st h => let ⟨⟨_, isE⟩, _⟩ := st; wpAny_pyIter_enum isE h

/-- enumerate(e): a list, a tuple -/
def iEnumA (K : PySem.W.Frag) (ta : TA) : TI := fun σ H R => ta σ H fun vs H1 => ∃ a xs, vs = [.ref a] ∧ ((SqL K H1 a xs ∧ R (Ite K a) H1) ∨ (SqT K H1 a xs ∧ R (IteT K a) H1))
theorem pi_enumA {X : Cx} {e : Expr} {ta : TA} {p pos tpos : Pos} {elts : List Expr} {kk : Nat} (hg : Gl X "enumerate") (hm : X.mg "enumerate" = none) (ha : PA X [e] ta) (hs : starEach [e] X.env = [(false, eval e X.env)] := by rfl) : PI X (.Tuple elts kk tpos) (.Call (.Name "enumerate" p) [e] [] pos) (iEnumA X.K ta) := by
  refine ⟨fun pins s σ H R I hyp => ?_⟩
  refine Call_ (ld_blt I hg hm boot_enumerate (PyProof.Rows.callWith_type1 (thn (ha.run pos pins s σ H _ I hyp) fun us s1 ⟨vs, H1, I1, r1, q1⟩ => ?_) hs rfl))
  obtain ⟨a, xs, rfl, q1⟩ := q1
  cases r1 with
  | cons r rr =>
    cases rr
    cases r
    have isNew : ∀ b, b ∈ [s1.heap.objs.size + 1, s1.heap.objs.size] → FpOk X pins H1 b := fun b hb => by
      have le : s1.heap.objs.size ≤ b := by
        rcases (by simpa using hb : b = s1.heap.objs.size + 1 ∨ b = s1.heap.objs.size) with rfl | rfl
        · exact Nat.le_add_right _ _
        · exact Nat.le_refl _
      exact I1.fpOk le (I1.hok.fresh le)
    rcases q1 with ⟨tup, q⟩ | ⟨tup, q⟩
    · obtain ⟨its, rv, isL, _⟩ := I1.list tup
      refine call_enumerate_list isL.isList fun h' isE isI _ kept => wpAny_pyIter_enum isE ?_
      exact ⟨s1.heap.objs.size + 1, [s1.heap.objs.size + 1, s1.heap.objs.size], _, _, H1, rfl, I1.kept (t' := s1.toks) kept, turn_enum a (s1.heap.objs.size + 1) s1.heap.objs.size, ⟨⟨.none, isE⟩, isI, Nat.succ_ne_self _⟩, isNew, q⟩
    · obtain ⟨its, rv, isT, _⟩ := I1.tuple tup
      have isT' : s1.heap.IsTuple a its.toArray := isT
      have lt : a < s1.heap.objs.size := by obtain ⟨o, at_, _⟩ := isT'; exact Heap.lt_size at_
      refine enumT_call isT' fun h' isE isI kept => wpAny_pyIter_enum isE ?_
      exact ⟨s1.heap.objs.size + 1, [s1.heap.objs.size + 1, s1.heap.objs.size], _, _, H1, rfl, I1.kept (t' := s1.toks) kept, turn_enumT (Nat.ne_of_lt (Nat.lt_succ_of_lt lt)) (Nat.ne_of_lt lt), ⟨⟨.none, isE⟩, isI, Nat.succ_ne_self _⟩, isNew, q⟩
section
variable {X : Cx} {W : WX} {Z : Ext} {CL : Calls} {ow0 : List Addr} {Hb : Hp} {K : PySem.W.Frag}
/-- a new pair is data -/
theorem pair_new {ow : List Addr} {H : Hp} {T : Addr} {x y : V} {dx dy : D} (hT : H T = none) (no : ∀ a ∈ ow, ∃ o, NT o ∧ H a = some o) (hx : Dt K (hid ow H) x dx) (hy : Dt K (hid ow H) y dy) : Dt K (hid ow (upd H T (.tup [x, y]))) (.ref T) (.tuple [dx, dy]) := by
  have m : T ∉ ow := fun m => by
    obtain ⟨o, _, e⟩ := no T m
    rw [hT] at e
    cases e
  have le : Le (hid ow H) (hid ow (upd H T (.tup [x, y]))) := fun b o q => by
    obtain ⟨m, q, t⟩ := hid_some q
    exact hid_of m (Le.new hT b o q) t
  exact .tup (.inl (.of (hid_of m upd_same nt_tup))) (.cons (Dt.mono le hx) (.cons (Dt.mono le hy) .nil))
/-- places and items -/
def enumD (ds : List D) : List D := ds.zipIdx.map fun p => .tuple [.int (p.2 : Nat), p.1]
theorem enumD_at {ds : List D} {i : Nat} {d : D} (h : (enumD ds)[i]? = some d) : ∃ x, ds[i]? = some x ∧ d = .tuple [.int (i : Nat), x] := by
  unfold enumD at h
  rw [List.getElem?_map, List.getElem?_zipIdx] at h
  cases q : ds[i]? with
  | none => rw [q] at h; cases h
  | some x =>
    rw [q] at h
    cases h
    exact ⟨x, rfl, by simp⟩
theorem enumD_len (ds : List D) : (enumD ds).length = ds.length := by simp [enumD]
theorem itD_enumL {S1 : Hp} {a : Addr} {vs : List V} {ds : List D} (h : S1 a = some (.lst vs)) (ha : DtAll K S1 vs ds) : ItD K S1 (Ite K a) (enumD ds) where
  go := fun i H e hi => ⟨vs, vs[i]'(by rw [ha.length, ← enumD_len]; exact hi), .inl (.of (e _ _ h)), by rw [enumD_len] at hi; simp [ha.length, hi]⟩
  stop := fun H e => ⟨vs, .inl (.of (e _ _ h)), by rw [ha.length, enumD_len]; exact Nat.le_refl _⟩
  yld := fun i H v H' ow d no e hd y => by
    obtain ⟨T, x, rfl, hT, rfl, hx⟩ := y
    have hx := hx vs (.inl (.of ((e.trans hid_le) _ _ h)))
    obtain ⟨d1, h1, rfl⟩ := enumD_at hd
    obtain ⟨d2, h2, h3⟩ := ha.get' hx
    rw [h1] at h2
    cases h2
    exact ⟨Le.new hT, pair_new hT no (.int _) (Dt.mono e h3)⟩
theorem itD_enumT {S1 : Hp} {a : Addr} {vs : List V} {ds : List D} (h : SqT K S1 a vs) (ha : DtAll K S1 vs ds) : ItD K S1 (IteT K a) (enumD ds) where
  go := fun i H e hi => ⟨vs, vs[i]'(by rw [ha.length, ← enumD_len]; exact hi), e.sqt h, by rw [enumD_len] at hi; simp [ha.length, hi]⟩
  stop := fun H e => ⟨vs, e.sqt h, by rw [ha.length, enumD_len]⟩
  yld := fun i H v H' ow d no e hd y => by
    obtain ⟨T, x, rfl, hT, rfl, hx⟩ := y
    have hx := hx vs ((e.trans hid_le).sqt h)
    obtain ⟨d1, h1, rfl⟩ := enumD_at hd
    obtain ⟨d2, h2, h3⟩ := ha.get' hx
    rw [h1] at h2
    cases h2
    exact ⟨Le.new hT, pair_new hT no (.int _) (Dt.mono e h3)⟩
def wEnum (w : WA) : WI := fun ρ P Ex => w ρ (fun ys => match ys with
  | [y] => match y.kp with
    | some (.list ds) => P (enumD ds)
    | some (.tuple ds) => P (enumD ds)
    | _ => False
  | _ => False) Ex
theorem sim_enum {e : Expr} {wa : WA} {p pos tpos : Pos} {elts : List Expr} {kk : Nat} (hg : Gl X "enumerate") (hm : X.mg "enumerate" = none) (h : SimA X W Z CL ow0 Hb [e] wa) (hs : starEach [e] X.env = [(false, eval e X.env)] := by rfl) : SimI X W Z CL ow0 Hb (.Tuple elts kk tpos) (.Call (.Name "enumerate" p) [e] [] pos) (wEnum wa) := by
  intro S ρ σ H ow P Ex R r w g b
  refine PIat.of (pi_enumA hg hm PAat.pa hs) (h S ρ σ H ow _ Ex _ r w (fun ys vs H' p e z q => ?_) b)
  split at p
  · cases q with
    | cons q1 q2 =>
      cases q2
      split at p
      · rename_i ds ed
        cases q1.kp ed with
        | lst h1 h2 => exact ⟨_, _, rfl, .inl ⟨.inl (.of (hid_le _ _ h1)), g _ _ H' p e z (itD_enumL h1 h2) fun hh => by rw [enumD_len, ← h2.length]; exact lst_len (hid_le _ _ h1) hh⟩⟩
      · rename_i ds ed
        cases q1.kp ed with
        | tup h1 h2 => exact ⟨_, _, rfl, .inr ⟨hid_le.sqt h1, g _ _ H' p e z (itD_enumT h1 h2) fun hh => by rw [enumD_len, ← h2.length]; exact sqt_len (hid_le.sqt h1) hh⟩⟩
      · exact p.elim
  · exact p.elim
/-- two rows in pairs -/
def zipD (as bs : List D) : List D := (as.zip bs).map fun p => .tuple [p.1, p.2]
theorem zipD_at {as bs : List D} {i : Nat} {d : D} (h : (zipD as bs)[i]? = some d) : ∃ x y, as[i]? = some x ∧ bs[i]? = some y ∧ d = .tuple [x, y] := by
  unfold zipD at h
  rw [List.getElem?_map] at h
  cases q : (as.zip bs)[i]? with
  | none => rw [q] at h; cases h
  | some xy =>
    rw [q] at h
    cases h
    obtain ⟨h1, h2⟩ := List.getElem?_zip_eq_some.mp q
    exact ⟨_, _, h1, h2, rfl⟩
theorem zipD_len (as bs : List D) : (zipD as bs).length = min as.length bs.length := by simp [zipD]
theorem itD_zipL {S1 : Hp} {a b : Addr} {vs us : List V} {as bs : List D} (h : S1 a = some (.lst vs)) (ha : DtAll K S1 vs as) (h' : S1 b = some (.lst us)) (hb : DtAll K S1 us bs) : ItD K S1 (Itz K a b) (zipD as bs) where
  go := fun i H e hi => by
    rw [zipD_len] at hi
    exact ⟨vs, us, vs[i]'(by rw [ha.length]; omega), us[i]'(by rw [hb.length]; omega), .inl (.of (e _ _ h)), .inl (.of (e _ _ h')), by simp [ha.length], by simp [hb.length]⟩
  stop := fun H e => ⟨vs, us, .inl (.of (e _ _ h)), .inl (.of (e _ _ h')), by rw [ha.length, hb.length, zipD_len]; omega⟩
  yld := fun i H v H' ow d no e hd y => by
    obtain ⟨T, x, y, rfl, hT, rfl, hx, hy⟩ := y
    have hx := hx vs (.inl (.of ((e.trans hid_le) _ _ h)))
    have hy := hy us (.inl (.of ((e.trans hid_le) _ _ h')))
    obtain ⟨d1, d2, h1, h2, rfl⟩ := zipD_at hd
    obtain ⟨d3, h3, h4⟩ := ha.get' hx
    obtain ⟨d5, h5, h6⟩ := hb.get' hy
    rw [h1] at h3
    rw [h2] at h5
    cases h3
    cases h5
    exact ⟨Le.new hT, pair_new hT no (Dt.mono e h4) (Dt.mono e h6)⟩
theorem itD_zipT {S1 : Hp} {a b : Addr} {vs us : List V} {as bs : List D} (h : SqT K S1 a vs) (ha : DtAll K S1 vs as) (h' : SqT K S1 b us) (hb : DtAll K S1 us bs) : ItD K S1 (RZ.ItzT K a b) (zipD as bs) where
  go := fun i H e hi => by
    rw [zipD_len] at hi
    exact ⟨vs, us, vs[i]'(by rw [ha.length]; omega), us[i]'(by rw [hb.length]; omega), e.sqt h, e.sqt h', by simp [ha.length], by simp [hb.length]⟩
  stop := fun H e => ⟨vs, us, e.sqt h, e.sqt h', by rw [ha.length, hb.length, zipD_len]; omega⟩
  yld := fun i H v H' ow d no e hd y => by
    obtain ⟨T, x, y, rfl, hT, rfl, hx, hy⟩ := y
    have hx := hx vs ((e.trans hid_le).sqt h)
    have hy := hy us ((e.trans hid_le).sqt h')
    obtain ⟨d1, d2, h1, h2, rfl⟩ := zipD_at hd
    obtain ⟨d3, h3, h4⟩ := ha.get' hx
    obtain ⟨d5, h5, h6⟩ := hb.get' hy
    rw [h1] at h3
    rw [h2] at h5
    cases h3
    cases h5
    exact ⟨Le.new hT, pair_new hT no (Dt.mono e h4) (Dt.mono e h6)⟩
def wZip (w : WA) : WI := fun ρ P Ex => w ρ (fun ys => match ys with
  | [x, y] => match x.kp, y.kp with
    | some (.list as), some (.list bs) => P (zipD as bs)
    | some (.tuple as), some (.tuple bs) => P (zipD as bs)
    | _, _ => False
  | _ => False) Ex
theorem sim_zip {e e2 : Expr} {wa : WA} {p pos tpos : Pos} {elts : List Expr} {kk : Nat} (hg : Gl X "zip") (hm : X.mg "zip" = none) (h : SimA X W Z CL ow0 Hb [e, e2] wa) (hs : starEach [e, e2] X.env = (false, eval e X.env) :: starEach [e2] X.env := by rfl) (hpl : (backTo pos (starEach [e2] X.env)).any (·.1) = false := by rfl) :
    SimI X W Z CL ow0 Hb (.Tuple elts kk tpos) (.Call (.Name "zip" p) [e, e2] [] pos) (wZip wa) := by
  intro S ρ σ H ow P Ex R r w g b
  refine PIat.of (RZ.pi_zipA hg hm PAat.pa hs hpl) (h S ρ σ H ow _ Ex _ r w (fun ys vs H' p e z q => ?_) b)
  split at p
  · cases q with
    | cons q1 q2 =>
      cases q2 with
      | cons q2 q3 =>
        cases q3
        split at p
        · rename_i as bs ea eb
          cases q1.kp ea with
          | lst h1 h2 =>
            cases q2.kp eb with
            | lst h3 h4 => exact ⟨_, _, _, _, rfl, .inl ⟨.inl (.of (hid_le _ _ h1)), .inl (.of (hid_le _ _ h3)), g _ _ H' p e z (itD_zipL h1 h2 h3 h4) fun hh => by rw [zipD_len, ← h2.length]; have := lst_len (hid_le _ _ h1) hh; omega⟩⟩
        · rename_i as bs ea eb
          cases q1.kp ea with
          | tup h1 h2 =>
            cases q2.kp eb with
            | tup h3 h4 => exact ⟨_, _, _, _, rfl, .inr ⟨hid_le.sqt h1, hid_le.sqt h3, g _ _ H' p e z (itD_zipT h1 h2 h3 h4) fun hh => by rw [zipD_len, ← h2.length]; have := sqt_len (hid_le.sqt h1) hh; omega⟩⟩
        · exact p.elim
  · exact p.elim
end
end Pd

/-! Pd21: sorted of a list that reads as data; str of an int; texts of a row. -/
namespace Pd
open PySem PySem.Spec PyProof.Rows L2
theorem each_zip {H : Hp} {K : PySem.W.Frag} : ∀ {vs : List V} {us : List Value} {ds : List D}, Vals vs us → DtAll K H vs ds → PySem.W.EachIs (fun (u : Value) (b : V × D) => RelV b.1 u) us (vs.zip ds)
  | _, _, _, .nil, .nil => .nil
  | _, _, _, .cons r t, .cons h a => .cons r (each_zip t a)
theorem each_vals : ∀ {us : List Value} {bs : List (V × D)}, PySem.W.EachIs (fun (u : Value) (b : V × D) => RelV b.1 u) us bs → Vals (bs.map (·.1)) us
  | _, _, .nil => .nil
  | _, _, .cons r t => .cons r (each_vals t)
theorem all_pairs {H : Hp} {K : PySem.W.Frag} : ∀ {bs : List (V × D)}, (∀ b ∈ bs, Dt K H b.1 b.2) → DtAll K H (bs.map (·.1)) (bs.map (·.2))
  | [], _ => .nil
  | b :: bs, h => .cons (h b List.mem_cons_self) (all_pairs fun c m => h c (List.mem_cons_of_mem _ m))
theorem zip_dt {H : Hp} {K : PySem.W.Frag} : ∀ {vs : List V} {ds : List D}, DtAll K H vs ds → ∀ b ∈ vs.zip ds, Dt K H b.1 b.2
  | _, _, .nil, b, m => by simp at m
  | _, _, .cons h t, b, m => by
    rw [List.zip_cons_cons] at m
    rcases List.mem_cons.mp m with rfl | m
    · exact h
    · exact zip_dt t b m
theorem zip_snd {H : Hp} {K : PySem.W.Frag} : ∀ {vs : List V} {ds : List D}, DtAll K H vs ds → (vs.zip ds).map (·.2) = ds
  | _, _, .nil => rfl
  | _, _, .cons h t => by rw [List.zip_cons_cons, List.map_cons, zip_snd t]
def srt (xs : List D) : List D := xs.mergeSort (PySem.W.dataLe false id)
theorem srt_snd (bs : List (V × D)) : (bs.mergeSort (PySem.W.dataLe false Prod.snd)).map (·.2) = srt (bs.map (·.2)) :=
  List.map_mergeSort fun a _ b _ => rfl
section
open PySem.W PySem.Calls
/-- sorted(a tuple): a new list -/
theorem sorted_tup {β : Type} {prog : Program} {w : World} {A : Around} {E : Value → Shared → Prop} {s : Shared} {R : Value → β → Prop} {enc : β → D} {l : Addr} {o : Obj} {n : Nat} {vs : List Value} {bs : List β} {Q : Value → Shared → Prop} (ho : s.heap.get? l = some o) (hc : o.cls = .type "tuple") (hd : o.data = .seq vs.toArray n)
    (e : EachIs R vs bs) (er : EachIs (fun v b => ∃ as, Reads s.heap v (enc b) as) vs bs)
    (hal : AllAlike (bs.map enc)) (hk : Sortable (bs.map enc)) (hL : bs.length ≤ sizeLine) (hu : ∀ b, b ∈ bs → A.units + 2 + (enc b).depth < cLine)
    (h : ∀ (h1 h' : Heap) (out : List Value) (c : Nat), (∀ b o, s.heap.get? b = some o → h1.get? b = some o) → (∀ b o, h1.get? b = some o → h'.get? b = some o) → h'.get? h1.objs.size = some (seqObj "list" out.toArray c) → out.length = bs.length → EachIs R out (bs.mergeSort (dataLe false enc)) → Q (.ref h1.objs.size) { s with heap := h' }) :
    wpAny (model prog w) A (call (.builtin "sorted") [.ref l]) Q E s := by
  have vl : vs.length ≤ sizeLine := by rw [e.length]; exact hL
  refine call_function_entry_kw kind_sorted plain_sorted entry_sorted (args_sorted1 _) ?_
  unfold Builtin.«sorted»
  refine wpAny_bind (m := checkCount "sorted" 1 1 _) (wpAny_pure ?_)
  refine wpAny_bind (wpAny_collect_seq l (.inr rfl) ho hc hd (fun h1 k1 => ?_) (by simpa using vl))
  have ev : vs.toArray.toList = vs := List.toList_toArray
  rw [ev]
  refine wpAny_bind (wpAny_newList ?_ vl)
  have at1 : (h1.push (seqObj "list" vs.toArray 0)).get? h1.objs.size = some (seqObj "list" vs.toArray 0) := Heap.get?_push_size _ rfl
  have k2 : ∀ b o', s.heap.get? b = some o' → (h1.push (seqObj "list" vs.toArray 0)).get? b = some o' := fun b o' z => Heap.get?_push_of_some _ (k1 b o' z)
  have low : ∀ b o', s.heap.get? b = some o' → b ≠ h1.objs.size := fun b o' z => Nat.ne_of_lt (Heap.lt_size (k1 b o' z))
  have er' : EachIs (fun v b => ∃ as, Reads (sortingHeap (h1.push (seqObj "list" vs.toArray 0)) h1.objs.size vs) v (enc b) as) vs bs := er.mono fun _ _ ⟨as, r⟩ => ⟨as, Reads.keeps (fun b o' z => sortingHeap_old (low b o' z) (k2 b o' z)) r⟩
  refine wpAny_bind (wpAny_holding (wpAny_call_entry_kw slot_list_sort ⟨_, at1, rfl⟩ entry_list_sort ?body (args_list_sort _)))
  case body =>
    refine wpAny_mono (list_sort_vals (κ := dataKind (sortingHeap (h1.push (seqObj "list" vs.toArray 0)) h1.objs.size vs) (bs.map enc)) (P := fun f s' => f = .done (.ret .none) ∧ Q (.ref h1.objs.size) s') at1 (SortsAt.data (s := { s with heap := sortingHeap (h1.push (seqObj "list" vs.toArray 0)) h1.objs.size vs }) (each_map (R := fun v d => ∃ as, Reads (sortingHeap (h1.push (seqObj "list" vs.toArray 0)) h1.objs.size vs) v d as) enc er') hal hk (bound_map fun b hb => ?_)) vl ⟨rfl, ?_⟩) (fun f s' hf => ?_) fun _ _ z => z
    · exact hu b hb
    · obtain ⟨c, hc'⟩ := sortedHeap_at (out := (sortVals (dataKind (sortingHeap (h1.push (seqObj "list" vs.toArray 0)) h1.objs.size vs) (bs.map enc)) false vs vs).toArray) at1
      refine h h1 _ _ c k1 (fun b o' z => ?_) hc' (by rw [sortVals_length false rfl]; exact e.length) (sortVals_data false e er' hal)
      have z2 := Heap.get?_push_of_some (seqObj "list" vs.toArray 0) z
      rw [sortedHeap_old (Nat.ne_of_lt (Heap.lt_size z)) (Heap.lt_size z2)]
      exact z2
    · obtain ⟨rfl, hq⟩ := hf
      exact ⟨_, rfl, wpAny_pure ⟨_, rfl, hq⟩⟩
end
section
variable {X : Cx} {Z : Ext} {CL : Calls}
theorem cd_sortedT (hu : X.A.units + 200 < cLine) {pins : List (Addr × Obj)} {s : Shared} {σ : L2.St} {H : Hp} {p : Addr} {ws : List V} {xs : List D} {ow : List Addr} {Q : Value → Shared → Prop} (I : Inv X pins σ H s) (hp : SqT X.K H p ws) (ha : DtAll X.K (hid ow H) ws xs)
    (al : PySem.W.AllAlike xs) (so : PySem.W.Sortable xs) (dp : ∀ d ∈ xs, d.depth ≤ 100)
    (hQ : ∀ (q : Addr) (s' : Shared) (us : List V), H q = none → Inv X pins σ (upd H q (.lst us)) s' → DtAll X.K (hid ow H) us (srt xs) → Q (.ref q) s') : wpAny (model X.prog X.w) X.A (call (.builtin "sorted") [.ref p]) Q X.xe s := by
  obtain ⟨its, r1, tp, hz⟩ := I.tuple hp
  have en : (ws.zip xs).map Prod.snd = xs := zip_snd ha
  have al' : PySem.W.AllAlike ((ws.zip xs).map Prod.snd) := by rw [en]; exact al
  have so' : PySem.W.Sortable ((ws.zip xs).map Prod.snd) := by rw [en]; exact so
  have len : (ws.zip xs).length = xs.length := by rw [List.length_zip, ha.length, Nat.min_self]
  have fits : xs.length ≤ sizeLine := by rw [← ha.length]; exact hz
  have reads : PySem.W.EachIs (fun v (b : V × D) => ∃ as, Reads s.heap v b.2 as) its (ws.zip xs) := by
    have z := each_zip r1 ha
    have q := zip_dt ha
    clear hz tp r1 ha en al so len fits dp hp al' so' hQ
    generalize ws.zip xs = bs at z q ⊢
    induction z with
    | nil => exact .nil
    | cons h t ih => exact .cons (Dp.reads I _ _ _ (Dt.mono hid_le (q _ List.mem_cons_self)).dp h) (ih fun b m => q b (List.mem_cons_of_mem _ m))
  obtain ⟨o, n, ho, hc, hd⟩ : ∃ o n, s.heap.get? p = some o ∧ o.cls = .type "tuple" ∧ o.data = .seq its.toArray n := by
    obtain ⟨o, q1, q2, n, q3⟩ := tp
    exact ⟨o, n, q1, q2, q3⟩
  refine sorted_tup (enc := Prod.snd) ho hc hd (each_zip r1 ha) reads al' so' (by rw [len]; exact fits) (fun b hb => ?_) fun h1 h' out c k1 k2 at_ ol oe => ?_
  · have := dp b.2 (by rw [← en]; exact List.mem_map.mpr ⟨b, hb, rfl⟩)
    omega
  · have I1 : Inv X pins σ H { s with heap := h1 } := I.kept (t' := s.toks) k1
    have hn : H h1.objs.size = none := I1.hok.fresh (Nat.le_refl _)
    have perm := List.mergeSort_perm (ws.zip xs) (PySem.W.dataLe false Prod.snd)
    have rel := each_vals oe
    have J : Inv X pins σ (upd H h1.objs.size (.lst (((ws.zip xs).mergeSort (PySem.W.dataLe false Prod.snd)).map (·.1)))) { s with heap := h' } :=
      I1.laid (s := { s with heap := h1 }) (t' := s.toks) k2 (Nat.le_refl _) ⟨by rw [List.length_map, perm.length_eq, len]; exact fits, out, c, rel, at_⟩
    refine hQ _ _ _ hn J ?_
    have e2 : srt xs = ((ws.zip xs).mergeSort (PySem.W.dataLe false Prod.snd)).map (·.2) := (congrArg srt en.symm).trans (srt_snd _).symm
    rw [e2]
    exact all_pairs fun b m => zip_dt ha b (perm.mem_iff.mp m)
end
section
variable {X : Cx} {Z : Ext} {CL : Calls}
/-- sorted(a list) -/
def bSorted : OpN := op1 fun d P => match d with
  | .list xs => (PySem.W.AllAlike xs ∧ PySem.W.Sortable xs ∧ (∀ d ∈ xs, d.depth ≤ 100)) ∧ P (.own (srt xs))
  | .tuple xs => (PySem.W.AllAlike xs ∧ PySem.W.Sortable xs ∧ (∀ d ∈ xs, d.depth ≤ 100)) ∧ P (.own (srt xs))
  | _ => False
theorem cd_sorted (hu : X.A.units + 200 < cLine) : CallR X (.builtin "sorted") (rC CL Z X.K bSorted) := by
  intro pins s σ H vs us Q I rv hyp
  obtain ⟨ow, H0, ys, P, gr, hs, w, g⟩ := hyp
  obtain ⟨v, y, d, rfl, hy, ed, w⟩ := one hs w
  split at w
  · rename_i xs
    obtain ⟨⟨w1, w2, w3⟩, w⟩ := w
    obtain ⟨p, ws, rfl, hp, ha⟩ := hy.list ed
    rw [Vals.ref1 rv]
    obtain ⟨its, r1, pl, hz⟩ := I.list (.inl (.of hp))
    have en : (ws.zip xs).map Prod.snd = xs := zip_snd ha
    have al : PySem.W.AllAlike ((ws.zip xs).map Prod.snd) := by rw [en]; exact w1
    have so : PySem.W.Sortable ((ws.zip xs).map Prod.snd) := by rw [en]; exact w2
    have len : (ws.zip xs).length = xs.length := by rw [List.length_zip, ha.length, Nat.min_self]
    have fits : xs.length ≤ sizeLine := by rw [← ha.length]; exact lst_len hp ⟨_, I.hok⟩
    have reads : PySem.W.EachIs (fun v (b : V × D) => ∃ as, Reads s.heap v b.2 as) its (ws.zip xs) := by
      have z := each_zip r1 ha
      have q := zip_dt ha
      clear hz pl r1 ha en al so len fits w1 w2 w3 w hp hy ed hs
      generalize ws.zip xs = bs at z q ⊢
      induction z with
      | nil => exact .nil
      | cons h t ih => exact .cons (Dp.reads I _ _ _ (Dt.mono hid_le (q _ List.mem_cons_self)).dp h) (ih fun b m => q b (List.mem_cons_of_mem _ m))
    refine PySem.W.sorted_data (enc := Prod.snd) (vs := its) pl.isList (each_zip r1 ha) reads al so (by rw [len]; exact fits) (fun b hb => ?_) fun out ol oe => ?_
    · have := w3 b.2 (by rw [← en]; exact List.mem_map.mpr ⟨b, hb, rfl⟩)
      omega
    · obtain ⟨c, hc⟩ := sortedAll_at s.heap its out.toArray
      have keep : ∀ b o, s.heap.get? b = some o → (sortedAll s.heap its out.toArray).get? b = some o := fun b o e => sortedAll_old e
      have fresh : s.heap.objs.size ≤ s.heap.objs.size + 1 := Nat.le_succ _
      have hn : H (s.heap.objs.size + 1) = none := I.hok.fresh fresh
      have perm := List.mergeSort_perm (ws.zip xs) (PySem.W.dataLe false Prod.snd)
      have rel := each_vals oe
      have J : Inv X pins σ (upd H (s.heap.objs.size + 1) (.lst (((ws.zip xs).mergeSort (PySem.W.dataLe false Prod.snd)).map (·.1)))) { s with heap := sortedAll s.heap its out.toArray } :=
        I.laid (t' := s.toks) keep fresh ⟨by rw [List.length_map, perm.length_eq, len]; exact fits, out, c, rel, hc⟩
      refine ⟨.ref _, _, J, rfl, g.lst w gr hn ?_⟩
      have e2 : srt xs = ((ws.zip xs).mergeSort (PySem.W.dataLe false Prod.snd)).map (·.2) := (congrArg srt en.symm).trans (srt_snd _).symm
      rw [e2]
      exact all_pairs fun b m => zip_dt ha b (perm.mem_iff.mp m)
  · rename_i xs
    obtain ⟨⟨w1, w2, w3⟩, w⟩ := w
    obtain ⟨p, ws, rfl, hp, ha⟩ := hy.tuple ed
    rw [Vals.ref1 rv]
    exact cd_sortedT hu I (hid_le.sqt hp) ha w1 w2 w3 fun q s' us hn J h => ⟨.ref q, _, J, rfl, g.lst w gr hn h⟩
  · exact w.elim
end
end Pd

/-! Pd22: texts of ints, f-strings, list(range(..)), methods that only read, a tuple so many times. -/
namespace Pd
open PySem PySem.Spec PyProof.Rows L2
section
variable {X : Cx} {W : WX} {Z : Ext} {CL : Calls} {ow0 : List Addr} {Hb : Hp}
def bStr : OpN := op1 fun d P => match d with
  | .int i => i.natAbs.log2 < 1920 ∧ P (.d (.str (toString i)))
  | .str z => P (.d (.str z))
  | _ => False
theorem cd_str : CallR X (.type "str") (rC CL Z X.K bStr) := by
  intro pins s σ H vs us Q I rv hyp
  obtain ⟨ow, H0, ys, P, gr, hs, w, g⟩ := hyp
  obtain ⟨v, y, d, rfl, hy, ed, w⟩ := one hs w
  split at w
  · rw [hy.int ed] at rv
    exact call_str_int pins s σ H _ us Q I rv ⟨_, rfl, w.1, g.sc w.2 gr.ext fun _ => .str _⟩
  · rw [hy.str ed] at rv
    exact SkE.call_str_str pins s σ H _ us Q I rv ⟨_, rfl, g.sc w gr.ext fun _ => .str _⟩
  · exact w.elim
/-! ### f'..' -/
def wFmt (w : WE) : WE := fun ρ P Ex => w ρ (fun y => match y.rd with
  | some (.str z) => z.length ≤ sizeLine ∧ P (.d (.str z))
  | some (.int i) => i.natAbs.log2 < 1920 ∧ P (.d (.str (toString i)))
  | _ => False) Ex
theorem sim_fmt {e : Expr} {we : WE} {pos : Pos} (h : SimE X W Z CL ow0 Hb e we) : SimE X W Z CL ow0 Hb (.FormattedValue e (-1) none pos) (wFmt we) := by
  intro S ρ σ H ow P Ex Q r w g bd
  refine PEat.of (pe_fmt PEat.pe) (h S ρ σ H ow _ Ex _ r w (fun y v H1 p e1 z1 q => ?_) bd)
  have g1 := g.step e1 r.gr.fpo
  split at p
  · rename_i z ez
    exact .inl ⟨z, q.str ez, p.1, g1.sc p.2 z1 fun _ => .str _⟩
  · rename_i i ei
    exact .inr ⟨i, q.int ei, p.1, g1.sc p.2 z1 fun _ => .str _⟩
  · exact p.elim
abbrev WJ := Str → Ev → (Str → Prop) → (Xn → Prop) → Prop
def wJnil : WJ := fun acc _ P _ => P acc
def wJcons (w : WE) (ws : WJ) : WJ := fun acc ρ P Ex => w ρ (fun y => match y with
  | .d (.str z) => (acc ++ z).length ≤ sizeLine ∧ ws (acc ++ z) ρ P Ex
  | _ => False) Ex
/-- the parts of an f-string -/
inductive SimJ (X : Cx) (W : WX) (Z : Ext) (CL : Calls) (ow0 : List Addr) (Hb : Hp) : List Expr → WJ → Prop
  | nil : SimJ X W Z CL ow0 Hb [] wJnil
  | cons {e : Expr} {es : List Expr} {w : WE} {ws : WJ} : SimE X W Z CL ow0 Hb e w → SimJ X W Z CL ow0 Hb es ws → SimJ X W Z CL ow0 Hb (e :: es) (wJcons w ws)
theorem SimJ.pj {es : List Expr} {ws : WJ} (h : SimJ X W Z CL ow0 Hb es ws) : PJ X es (es.map fun e => PEat X e) := by
  induction h with
  | nil => exact .nil
  | cons _ _ ih => exact .cons PEat.pe ih
theorem SimJ.run {es : List Expr} {ws : WJ} (h : SimJ X W Z CL ow0 Hb es ws) : ∀ {S : Hp} {ρ : Ev} {σ : L2.St} {H : Hp} {ow : List Addr} {P : Str → Prop} {Ex : Xn → Prop} {Q : Str → Hp → Prop} {acc : Str}, Rel CL Z X.K ow0 Hb S ρ σ H ow → ws acc ρ P Ex →
    (∀ z H', P z → SameBut (fp Z) H H' → RZ Z H' → Q z H') → Bd Z X.K ow X.mg W σ H Ex → tJs (es.map fun e => PEat X e) acc σ H Q := by
  induction h with
  | nil =>
    intro S ρ σ H ow P Ex Q acc r w g b
    exact g acc H w (.refl _ _) r.gr.ext
  | cons he hs ih =>
    intro S ρ σ H ow P Ex Q acc r w g b
    refine he S ρ σ H ow _ Ex _ r w (fun y v H1 p e1 z1 q => ?_) b
    split at p
    · rename_i z
      cases (q : Dt X.K (hid ow H1) v (.str z))
      exact ⟨z, rfl, p.1, ih (r.step e1 z1) p.2 (fun z H' p' e' z' => g z H' p' (e1.trans e') z') (b.step e1)⟩
    · exact p.elim
def wJoined (ws : WJ) : WE := fun ρ P Ex => ws Str.empty ρ (fun z => P (.d (.str z))) Ex
theorem sim_joined {v1 v2 : Expr} {rest : List Expr} {ws : WJ} {pos : Pos} (h : SimJ X W Z CL ow0 Hb (v1 :: v2 :: rest) ws) : SimE X W Z CL ow0 Hb (.JoinedStr (v1 :: v2 :: rest) pos) (wJoined ws) := by
  intro S ρ σ H ow P Ex Q r w g b
  exact PEat.of (pe_joined h.pj) (h.run r w (fun z H' p e z' => (g.step e r.gr.fpo).sc p z' fun _ => .str _) b)
theorem sim_joined1 {e : Expr} {we : WE} {pos : Pos} (h : SimE X W Z CL ow0 Hb e we) : SimE X W Z CL ow0 Hb (.JoinedStr [e] pos) we := fun S ρ σ H ow P Ex Q r w g b => PEat.of (pe_joined1 PEat.pe) (h S ρ σ H ow P Ex Q r w g b)
/-! ### list(range(..)), tuple(range(..)) -/
def wLR1 (tup : Bool) (w : WE) : WE := fun ρ P Ex => w ρ (fun y => match y.rd with
  | some (.int n) => RgOk 0 n ∧ P (if tup = true then .d (.tuple (countD 0 n.toNat)) else .own (countD 0 n.toNat))
  | _ => False) Ex
theorem rg_dt {K : PySem.W.Frag} {H : Hp} (a b : Int) : DtAll K H (rgV a b) (countD a (b - a).toNat) := by
  unfold rgV countD
  induction List.range (b - a).toNat with
  | nil => exact .nil
  | cons i r ih => exact .cons (.int _) ih
theorem sim_listRg1 {e : Expr} {we : WE} {p p2 q pos : Pos} (hc : X.calm = true) (h : SimE X W Z CL ow0 Hb e we) (hg : Gl X "list") (hm : X.mg "list" = none) (hg2 : Gl X "range") (hm2 : X.mg "range" = none) (na : starEach [e] X.env = (false, eval e X.env) :: starEach [] X.env := by rfl) :
    SimE X W Z CL ow0 Hb (.Call (.Name "list" p) [.Call (.Name "range" p2) [e] [] q] [] pos) (wLR1 false we) := by
  intro S ρ σ H ow P Ex Q r w g b
  refine PEat.of (pe_listRg hc hg hm (prg_1 hg2 hm2 PEat.pe na)) (h S ρ σ H ow _ Ex _ r w (fun y v H1 p e1 z1 q => ?_) b)
  split at p
  · rename_i n en
    refine ⟨n, q.int en, p.1, fun l hl => (g.step e1 r.gr.fpo).lst p.2 (r.gr.step e1 z1) hl ?_⟩
    have := rg_dt (K := X.K) (H := hid ow H1) 0 n
    rwa [Int.sub_zero] at this
  · exact p.elim
theorem sim_tupRg1 {e : Expr} {we : WE} {p p2 q pos : Pos} (hc : X.calm = true) (h : SimE X W Z CL ow0 Hb e we) (hg : Gl X "tuple") (hm : X.mg "tuple" = none) (hg2 : Gl X "range") (hm2 : X.mg "range" = none) (na : starEach [e] X.env = (false, eval e X.env) :: starEach [] X.env := by rfl) :
    SimE X W Z CL ow0 Hb (.Call (.Name "tuple" p) [.Call (.Name "range" p2) [e] [] q] [] pos) (wLR1 true we) := by
  intro S ρ σ H ow P Ex Q r w g b
  refine PEat.of (pe_tupRg hc hg hm (prg_1 hg2 hm2 PEat.pe na)) (h S ρ σ H ow _ Ex _ r w (fun y v H1 p e1 z1 q => ?_) b)
  split at p
  · rename_i n en
    refine ⟨n, q.int en, p.1, fun l hl => (g.step e1 r.gr.fpo).tup p.2 (r.gr.step e1 z1) hl ?_⟩
    have := rg_dt (K := X.K) (H := hid ow H1) 0 n
    rwa [Int.sub_zero] at this
  · exact p.elim
/-! ### methods that only read -/
abbrev OpP := D → List D → (Val → Prop) → Prop
def reads : List Val → Option (List D)
  | [] => some []
  | y :: ys => match y.rd, reads ys with
    | some d, some ds => some (d :: ds)
    | _, _ => none
theorem RVs.reads {K : PySem.W.Frag} {ow : List Addr} {H0 H : Hp} : ∀ {vs : List V} {ys : List Val} {ds : List D}, RVs Z CL K ow H0 H vs ys → reads ys = some ds → DtAll K H vs ds
  | _, _, _, .nil, e => by cases e; exact .nil
  | _, _ :: ys, ds, .cons (y := y) h t, e => by
    unfold Pd.reads at e
    cases e1 : y.rd with
    | none => rw [e1] at e; cases e
    | some d =>
      cases e2 : Pd.reads ys with
      | none => rw [e1, e2] at e; cases e
      | some es =>
        rw [e1, e2] at e
        cases e
        exact .cons (h.rd e1) (RVs.reads t e2)
def tyD : D → String
  | .str _ => "str"
  | .int _ => "int"
  | .list _ => "list"
  | _ => ""
theorem tyD_ok {K : PySem.W.Frag} {H : Hp} {x : V} {d : D} {T : String} (h : Dt K H x d) (e : tyD d = T) (n : T ≠ "") : tyV K T x H := by
  cases h with
  | int i => exact e.symm
  | str z => exact e.symm
  | lst h1 h2 => exact .inl ⟨e.symm, _, .inl (.of h1)⟩
  | non => exact absurd e.symm n
  | bl b => exact absurd e.symm n
  | tup h1 h2 => exact absurd e.symm n
def wPm (T : String) (op : OpP) (wo : WE) (wa : WA) : WE := fun ρ P Ex => wo ρ (fun x => match x.rd with
  | some d => tyD d = T ∧ wa ρ (fun ys => match reads ys with
    | some ds => op d ds P
    | none => False) Ex
  | none => False) Ex
/-- what a reading method does of data -/
def POk (X : Cx) (Z : Ext) (CL : Calls) (r : V → List V → Hp → VK → Prop) (op : OpP) : Prop := ∀ (ow : List Addr) (H : Hp) (x : V) (us : List V) (d : D) (ds : List D) (P : Val → Prop) (Q : VK), Gr Z ow H → Dt X.K H x d → DtAll X.K H us ds → op d ds P → Gd CL Z X.K ow H P Q → r x us H Q
theorem sim_pm {T : String} {op : OpP} {id : String} {r : V → List V → Hp → VK → Prop} (hm : MtR X id r) (hop : POk X Z CL r op) (pa : PlainAttrs T) {o e : Expr} {es : List Expr} {name : Str} {apos cpos : Pos} {wo : WE} {wa : WA} (slot : Slot T name id) (hty : typeOf (.builtin id) = pure (.type "method_descriptor")) (hT : T ≠ "")
    (ho : SimE X W Z CL ow0 Hb o wo) (ha : SimA X W Z CL ow0 Hb (e :: es) wa)
    (hbase : attributeBase o name X.env (eval o X.env) = eval o X.env := by rfl)
    (hfew : ((backTo cpos (starEach (e :: es) X.env)).all (fun x => !x.1) && (backToKw cpos (keywordEach [] X.env)).all (fun x => x.1.isSome) && decide ((e :: es).length + ([] : List Keyword).length + (if ([] : List Keyword).isEmpty then 0 else 1) < 30)) = true := by rfl)
    (hline : (apos.endLine == cpos.line) = true := by rfl) (hs : starEach (e :: es) X.env = (false, eval e X.env) :: starEach es X.env := by rfl) (hplain : (backTo cpos (starEach es X.env)).any (·.1) = false := by rfl) :
    SimE X W Z CL ow0 Hb (.Call (.Attribute o name apos) (e :: es) [] cpos) (wPm T op wo wa) := by
  intro S ρ σ H ow P Ex Q rl w g b
  refine PEat.of (pe_bm pa slot hty hm PEat.pe PAat.pa hbase hfew hline hs hplain) ?_
  refine ho S ρ σ H ow _ Ex _ rl w (fun y v H1 p1 e1 z1 q1 => ?_) b
  split at p1
  · rename_i d ed
    refine ⟨tyD_ok (q1.rd ed) p1.1 hT, ?_⟩
    refine ha S ρ σ H1 ow _ Ex _ (rl.step e1 z1) p1.2 (fun ys us H2 p2 e2 z2 q2 => ?_) (b.step e1)
    split at p2
    · rename_i ds eds
      exact hop ow H2 v us d ds P Q (rl.gr.step (e1.trans e2) z2) ((q1.stay e2 rl.gr.fpo).rd ed) (q2.reads eds) p2 (g.step (e1.trans e2) rl.gr.fpo)
    · exact p2.elim
  · exact p1.elim
/-- the place of the first item that is equal -/
def firstAt (xs : List D) (y : D) : Option Nat := xs.findIdx? fun z => PyData.eqv z y
def pIndex : OpP := fun d ds P => match d, ds with
  | .list xs, [y] => (SeqAt.shaped (.list xs) = true ∧ SeqAt.shaped y = true) ∧ match firstAt xs y with
    | some j => P (.d (.int (j : Nat)))
    | none => False
  | _, _ => False
theorem po_index : POk X Z CL (rIndexD X.K) pIndex := by
  intro ow H x us d ds P Q gr hx hus w g
  unfold pIndex at w
  split at w
  · rename_i xs y
    cases hus with
    | cons hy hn =>
      cases hn
      cases hx with
      | lst h1 h2 =>
        obtain ⟨⟨w1, w2⟩, w⟩ := w
        split at w
        · rename_i j ej
          unfold firstAt at ej
          obtain ⟨hj, e1, e2⟩ := List.findIdx?_eq_some_iff_getElem.mp ej
          refine ⟨_, _, y, xs, j, xs[j], rfl, rfl, (Dt.lst h1 h2).dp, hy.dp, w1, w2, by simp [hj], e1, fun m z' hm hz => ?_, g.sc w gr.ext fun _ => .int _⟩
          obtain ⟨hl, rfl⟩ := List.getElem?_eq_some_iff.mp hz
          simpa using e2 m hm
        · exact w.elim
  · exact w.elim
def strsOf : List D → Option (List Str)
  | [] => some []
  | .str z :: r => (strsOf r).map (z :: ·)
  | _ :: _ => none
theorem strsOf_eq : ∀ {xs : List D} {ns : List Str}, strsOf xs = some ns → xs = ns.map .str
  | [], _, e => by cases e; rfl
  | .str i :: r, ns, e => by
    unfold strsOf at e
    cases q : strsOf r with
    | none => rw [q] at e; cases e
    | some ms =>
      rw [q] at e
      cases e
      rw [strsOf_eq q]
      rfl
  | .none :: _, _, e => by cases e
  | .bool _ :: _, _, e => by cases e
  | .int _ :: _, _, e => by cases e
  | .list _ :: _, _, e => by cases e
  | .tuple _ :: _, _, e => by cases e
  | .dict _ :: _, _, e => by cases e
theorem strsOf_map : ∀ ns : List Str, strsOf (ns.map .str) = some ns
  | [] => rfl
  | n :: ns => by
    show (strsOf (ns.map .str)).map (n :: ·) = _
    rw [strsOf_map ns]
    rfl
/-- sep.join(texts) -/
def pJoin : OpP := fun d ds P => match d, ds with
  | .str a, [.list xs] => match strsOf xs with
    | some ys => (ys.map (·.length)).sum + ys.length * a.length ≤ 16777216 ∧ P (.d (.str (Txt.join a ys)))
    | none => False
  | .str a, [.tuple xs] => match strsOf xs with
    | some ys => (ys.map (·.length)).sum + ys.length * a.length ≤ 16777216 ∧ P (.d (.str (Txt.join a ys)))
    | none => False
  | _, _ => False
theorem po_join : POk X Z CL (fun x xs H Q => ∃ a p, ∃ ys : List Str, x = .str a ∧ xs = [.ref p] ∧ (SqL X.K H p (ys.map V.str) ∨ SqT X.K H p (ys.map V.str)) ∧ (ys.map (·.length)).sum + ys.length * a.length ≤ 16777216 ∧ Q (.str (Txt.join a ys)) H) pJoin := by
  intro ow H x us d ds P Q gr hx hus w g
  unfold pJoin at w
  split at w
  · rename_i a xs
    cases hx
    cases hus with
    | cons hy hn =>
      cases hn
      cases hy with
      | lst h1 h2 =>
        split at w
        · rename_i ys ey
          rw [strsOf_eq ey] at h2
          rw [h2.strs] at h1
          exact ⟨a, _, ys, rfl, rfl, .inl (.inl (.of h1)), w.1, g.sc w.2 gr.ext fun _ => .str _⟩
        · exact w.elim
  · rename_i a xs
    cases hx
    cases hus with
    | cons hy hn =>
      cases hn
      cases hy with
      | tup h1 h2 =>
        split at w
        · rename_i ys ey
          rw [strsOf_eq ey] at h2
          rw [h2.strs] at h1
          exact ⟨a, _, ys, rfl, rfl, .inr h1, w.1, g.sc w.2 gr.ext fun _ => .str _⟩
        · exact w.elim
  · exact w.elim
/-- text.split(sep) -/
def pSplit : OpP := fun d ds P => match d, ds with
  | .str a, [.str b] => ((b.length == 0) = false ∧ a.length + 2 ≤ sizeLine) ∧ P (.own ((Txt.split a b).map .str))
  | _, _ => False
theorem po_split : POk X Z CL (fun x xs H Q => ∃ a b, x = .str a ∧ xs = [.str b] ∧ (b.length == 0) = false ∧ a.length + 2 ≤ sizeLine ∧ rNewStrs (Txt.split a b) H Q) pSplit := by
  intro ow H x us d ds P Q gr hx hus w g
  unfold pSplit at w
  split at w
  · rename_i a b
    cases hx
    cases hus with
    | cons hy hn =>
      cases hn
      cases hy
      exact ⟨a, b, rfl, rfl, w.1.1, w.1.2, fun p hp => g.lst w.2 gr hp (DtAll.ofStrs _)⟩
  · exact w.elim
/-- a tuple so many times -/
def opRepT : Op2 := fun a b P => match a.rd, b.rd with
  | some (.tuple xs), some (.int k) => (xs ≠ [] ∧ 2 ≤ k ∧ k ≤ 1000 ∧ xs.length ≤ 1000) ∧ P (.d (.tuple (List.replicate k.toNat xs).flatten))
  | _, _ => False
theorem or_repT : OpR X (binaryOp .Mult) (rD CL Z X.K opRepT) := by
  intro pins s σ H x y v u Q I rx ry hyp
  obtain ⟨ow, H0, a, b, P, gr, ha, hb, w, g⟩ := hyp
  unfold opRepT at w
  split at w
  · rename_i xs k e1 e2
    obtain ⟨p, vs, rfl, h1, a1⟩ := ha.tuple e1
    rw [hb.int e2] at ry
    refine op_repT pins s σ H _ _ v u Q I rx ry ⟨p, k, vs, rfl, rfl, hid_le.sqt h1, fun z => ?_, w.1.2.1, w.1.2.2.1, by rw [a1.length]; exact w.1.2.2.2, fun l hl => g.tup w.2 gr hl (a1.rep _)⟩
    have := a1.length
    rw [z] at this
    exact w.1.1 (List.length_eq_zero_iff.mp this.symm)
  · exact w.elim
end
end Pd

/-! Pd23: comprehensions of two walks. -/
namespace Pd
open PySem PySem.Spec PyProof.Rows L2
def lcIn (b1 : WB) (tt1 : WT) (we : WE) (ρ1 : Ev) (K : List D → Prop) : List D → List D → Prop
  | [], acc => K acc
  | d :: ds, acc => b1 ρ1 d fun ρ' => tt1 ρ' (fun c => if c = true then we ρ' (fun y => match y.kp with
      | some e => acc.length < sizeLine ∧ lcIn b1 tt1 we ρ1 K ds (acc ++ [e])
      | none => False) (fun _ => False) else lcIn b1 tt1 we ρ1 K ds acc) (fun _ => False)
def lcOut (b : WB) (tt : WT) (wi1 : WI) (b1 : WB) (tt1 : WT) (we : WE) (vs1 : List Nat) (ρ0 : Ev) (P : List D → Prop) : List D → List D → Prop
  | [], acc => P acc
  | d :: ds, acc => b ρ0 d fun ρ' => tt ρ' (fun c => if c = true then wi1 ρ' (fun ds1 => lcIn b1 tt1 we (wipeE ρ' vs1) (fun acc' => lcOut b tt wi1 b1 tt1 we vs1 ρ0 P ds acc') ds1 acc) (fun _ => False) else lcOut b tt wi1 b1 tt1 we vs1 ρ0 P ds acc) (fun _ => False)
def wLc2 (wi : WI) (b : WB) (tt : WT) (wi1 : WI) (b1 : WB) (tt1 : WT) (we : WE) (vs vs1 : List Nat) : WE := fun ρ P Ex => wi ρ (fun ds => lcOut b tt wi1 b1 tt1 we vs1 (wipeE ρ vs) (fun acc => P (.own acc)) ds []) Ex
section
variable {X : Cx} {W : WX} {Z : Ext} {CL : Calls} {ow0 : List Addr} {Hb : Hp}
/-- the new list L, tracked, holds acc; nothing else of this def's is at L -/
structure Acc (CL : Calls) (Z : Ext) (K : PySem.W.Frag) (ow0 : List Addr) (Hb : Hp) (S : Hp) (ρ : Ev) (σ : L2.St) (H1 : Hp) (L : Addr) (ow : List Addr) (H : Hp) (acc : List D) : Prop where
  rel : Rel CL Z K ow0 Hb S ρ σ H (L :: ow)
  at_ : ∃ us, H L = some (.lst us) ∧ DtAll K (hid (L :: ow) H) us acc
  same : SameBut (fp Z) H1 H
theorem Acc.step {K : PySem.W.Frag} {S H1 H H' : Hp} {ρ : Ev} {σ : L2.St} {L : Addr} {ow : List Addr} {acc : List D} (a : Acc CL Z K ow0 Hb S ρ σ H1 L ow H acc) (hL : L ∉ fp Z) (e : SameBut (fp Z) H H') (z : RZ Z H') : Acc CL Z K ow0 Hb S ρ σ H1 L ow H' acc := by
  obtain ⟨us, h1, h2⟩ := a.at_
  exact ⟨a.rel.step e z, ⟨us, e L _ hL nt_lst h1, DtAll.mono (hid_mono e a.rel.gr.fpo fun _ m => .inl m) h2⟩, a.same.trans e⟩
theorem lc2_sound {tg iter : Expr} {scope : Scope} {wi wi1 : WI} {b b1 : WB} {is is1 : List Nat} {tt tt1 : WT} {we : WE} {vs vs1 : List Nat} (hi : SimI X W Z CL ow0 Hb tg iter wi) (his : ∀ i ∈ is, i ∈ vs) (his1 : ∀ i ∈ is1, i ∈ vs1) (g0 : Gr Z ow0 Hb)
    {g g1 : TG} {t t1 : TT} {te : TE} {ti : TI}
    (hg : ∀ {S : Hp} {ρ : Ev} {σ : L2.St} {H : Hp} {ow : List Addr} {d : D} {v : V} {k : Ev → Prop} {Q : L2.St → Hp → Prop}, Rel CL Z X.K ow0 Hb S ρ σ H ow → Dt X.K (hid ow H) v d → b ρ d k → (∀ ρ' σ', k ρ' → Rel CL Z X.K ow0 Hb S ρ' σ' H ow → OnlyE is ρ σ ρ' σ' → Q σ' H) → g v σ H Q)
    (ht : ∀ {S : Hp} {ρ : Ev} {σ : L2.St} {H : Hp} {ow : List Addr} {P : Bool → Prop} {Q : Bool → Hp → Prop}, Rel CL Z X.K ow0 Hb S ρ σ H ow → tt ρ P (fun _ => False) → GdT Z H P Q → t σ H Q)
    (hi1 : ∀ {S : Hp} {ρ : Ev} {σ : L2.St} {H : Hp} {ow : List Addr} {P : List D → Prop} {R : It → Hp → Prop}, Rel CL Z X.K ow0 Hb S ρ σ H ow → wi1 ρ P (fun _ => False) → (∀ ds J H', P ds → SameBut (fp Z) H H' → RZ Z H' → ItD X.K (hid ow H') J ds → R J H') → ti σ H R)
    (hg1 : ∀ {S : Hp} {ρ : Ev} {σ : L2.St} {H : Hp} {ow : List Addr} {d : D} {v : V} {k : Ev → Prop} {Q : L2.St → Hp → Prop}, Rel CL Z X.K ow0 Hb S ρ σ H ow → Dt X.K (hid ow H) v d → b1 ρ d k → (∀ ρ' σ', k ρ' → Rel CL Z X.K ow0 Hb S ρ' σ' H ow → OnlyE is1 ρ σ ρ' σ' → Q σ' H) → g1 v σ H Q)
    (ht1 : ∀ {S : Hp} {ρ : Ev} {σ : L2.St} {H : Hp} {ow : List Addr} {P : Bool → Prop} {Q : Bool → Hp → Prop}, Rel CL Z X.K ow0 Hb S ρ σ H ow → tt1 ρ P (fun _ => False) → GdT Z H P Q → t1 σ H Q)
    (he : ∀ {S : Hp} {ρ : Ev} {σ : L2.St} {H : Hp} {ow : List Addr} {P : Val → Prop} {Q : VK}, Rel CL Z X.K ow0 Hb S ρ σ H ow → we ρ P (fun _ => False) → Gd CL Z X.K ow H P Q → te σ H Q)
    {S : Hp} {ρ : Ev} {σ : L2.St} {H : Hp} {ow : List Addr} {P : Val → Prop} {Ex : Xn → Prop} {Q : VK} (r : Rel CL Z X.K ow0 Hb S ρ σ H ow) (w : wLc2 wi b tt wi1 b1 tt1 we vs vs1 ρ P Ex) (gd : Gd CL Z X.K ow H P Q) (bd : Bd Z X.K ow X.mg W σ H Ex) :
    tLc2 (fun σ H R => PIat X tg iter σ H fun J H' => Held X H' → R J H') g t ti g1 t1 te vs vs1 σ H Q := by
  refine hi S ρ σ H ow _ _ _ r w (fun ds J H1 p e z hJ _ => fun _ => ?_) bd
  intro L hL
  have r1 := (r.step e z).remark (S' := hid ow H1) (.refl _)
  have hLz : L ∉ fp Z := fun m => r1.gr.no (.of hL) (r1.gr.fpo L m)
  have hLb : New Hb L := r1.sb.free hLz (.of hL)
  have hLow : L ∉ ow := r1.gr.no (.of hL)
  have noslot : ∀ (j : Nat) (as : List D), ρ[j]? = some (some (.own as)) → σ[j]? = some (some (V.ref L)) → False := fun j as hj hσ => by
    obtain ⟨w1, w2, t, ts, et, t0, tm, t2, t3, t4⟩ := r.val j _ hj
    rw [hσ] at w2
    cases w2
    cases et
    have : H1 L = some (.lst ts) := e L _ hLz nt_lst t3
    rw [hL] at this
    cases this
  have a0 : Acc CL Z X.K ow0 Hb (hid ow H1) ρ σ H1 L ow (upd H1 L (.lst [])) [] := ⟨r1.more (SameBut.new hL) (z.le (Le.new hL)) (.of hL) ⟨_, nt_lst, upd_same⟩, ⟨[], upd_same, .nil⟩, SameBut.new hL⟩
  refine ⟨fun i m H => m = ds.length - i ∧ i ≤ ds.length ∧ ∃ acc, lcOut b tt wi1 b1 tt1 we vs1 (wipeE ρ vs) (fun acc => P (.own acc)) (ds.drop i) acc ∧ Acc CL Z X.K ow0 Hb (hid ow H1) ρ σ H1 L ow H acc, ⟨ds.length, by simp, Nat.zero_le _, [], p, a0⟩, ?_⟩
  rintro i m H2 ⟨rfl, hi2, acc, p2, a2⟩
  have le : Le (hid ow H1) H2 := a2.rel.mark.trans hid_le
  by_cases hlt : i < ds.length
  · refine .inr ⟨hJ.go i H2 le hlt, fun H => ∃ acc, lcOut b tt wi1 b1 tt1 we vs1 (wipeE ρ vs) (fun acc => P (.own acc)) (ds.drop (i + 1)) acc ∧ Acc CL Z X.K ow0 Hb (hid ow H1) ρ σ H1 L ow H acc, fun H' q => ⟨ds.length - (i + 1), by omega, rfl, hlt, q⟩, fun x H' y => ?_⟩
    have hd : ds[i]? = some ds[i] := by simp [hlt]
    obtain ⟨l1, l2⟩ := hJ.yld i H2 x H' (L :: ow) _ a2.rel.gr.isS a2.rel.mark hd y
    rw [List.drop_eq_getElem_cons hlt] at p2
    have a3 := a2.step hLz (.of_le l1) (a2.rel.gr.ext.le l1)
    refine hg (a3.rel.wiped vs) l2 p2 fun ρ5 σ5 p5 r5 o5 => ⟨by rw [(o5.1.mono his).wipe, wipe_wipe], ?_⟩
    refine ht r5 p5 fun c H6 p6 e6 z6 => ?_
    have a6 := a3.step hLz e6 z6
    cases c with
    | false =>
      rw [if_neg (by decide)] at p6 ⊢
      exact ⟨acc, p6, a6⟩
    | true =>
      rw [if_pos rfl] at p6 ⊢
      refine hi1 (r5.step e6 z6) p6 fun ds1 J1 H7 p7 e7 z7 hJ1 => ?_
      have a7 := a6.step hLz e7 z7
      have r7 : Rel CL Z X.K ow0 Hb (hid (L :: ow) H7) ρ5 σ5 H7 (L :: ow) := ((r5.step e6 z6).step e7 z7).remark (.refl _)
      refine ⟨fun j k H => k = ds1.length - j ∧ j ≤ ds1.length ∧ ∃ acc, lcIn b1 tt1 we (wipeE ρ5 vs1) (fun acc' => lcOut b tt wi1 b1 tt1 we vs1 (wipeE ρ vs) (fun acc => P (.own acc)) (ds.drop (i + 1)) acc') (ds1.drop j) acc ∧ Acc CL Z X.K ow0 Hb (hid ow H1) ρ σ H1 L ow H acc ∧ Rel CL Z X.K ow0 Hb (hid (L :: ow) H7) ρ5 σ5 H (L :: ow), ⟨ds1.length, by simp, Nat.zero_le _, acc, p7, a7, r7⟩, ?_⟩
      rintro j k H8 ⟨rfl, hj2, acc8, p8, a8, r8⟩
      have le8 : Le (hid (L :: ow) H7) H8 := r8.mark.trans hid_le
      by_cases hlt1 : j < ds1.length
      · refine .inr ⟨hJ1.go j H8 le8 hlt1, fun H => ∃ acc, lcIn b1 tt1 we (wipeE ρ5 vs1) (fun acc' => lcOut b tt wi1 b1 tt1 we vs1 (wipeE ρ vs) (fun acc => P (.own acc)) (ds.drop (i + 1)) acc') (ds1.drop (j + 1)) acc ∧ Acc CL Z X.K ow0 Hb (hid ow H1) ρ σ H1 L ow H acc ∧ Rel CL Z X.K ow0 Hb (hid (L :: ow) H7) ρ5 σ5 H (L :: ow), fun H' q => ⟨ds1.length - (j + 1), by omega, rfl, hlt1, q⟩, fun x1 H9 y1 => ?_⟩
        have hd1 : ds1[j]? = some ds1[j] := by simp [hlt1]
        obtain ⟨l3, l4⟩ := hJ1.yld j H8 x1 H9 (L :: ow) _ r8.gr.isS r8.mark hd1 y1
        rw [List.drop_eq_getElem_cons hlt1] at p8
        have a9 := a8.step hLz (.of_le l3) (a8.rel.gr.ext.le l3)
        have r9 := r8.step (.of_le l3) (r8.gr.ext.le l3)
        refine hg1 (r9.wiped vs1) l4 p8 fun ρ10 σ10 p10 r10 o10 => ⟨by rw [(o10.1.mono his1).wipe, wipe_wipe], ?_⟩
        refine ht1 r10 p10 fun c H11 p11 e11 z11 => ?_
        have a11 := a9.step hLz e11 z11
        have r11 := r9.step e11 z11
        cases c with
        | false =>
          rw [if_neg (by decide)] at p11 ⊢
          exact ⟨acc8, p11, a11, r11⟩
        | true =>
          rw [if_pos rfl] at p11 ⊢
          refine he (r10.step e11 z11) p11 fun v y12 H12 p12 e12 z12 q12 => ?_
          split at p12
          · rename_i e8 ed
            obtain ⟨p12, p13⟩ := p12
            have a12 := a11.step hLz e12 z12
            have r12 := r11.step e12 z12
            obtain ⟨us, hus, hau⟩ := a12.at_
            have put := a12.rel.put (vs := us ++ [y12]) hus List.mem_cons_self hLz hLb noslot
            have no5 : ∀ (j : Nat) (as : List D), ρ5[j]? = some (some (.own as)) → σ5[j]? = some (some (V.ref L)) → False := fun j as hj hσ => by
              obtain ⟨q1, q2⟩ := o5.2 j as hj
              obtain ⟨q3, q4⟩ := wipeE_some q1
              rw [o5.1.2 j q2, wipe_get q4] at hσ
              exact noslot j as q3 hσ
            refine ⟨us, hus, by rw [hau.length]; exact p12, acc8 ++ [e8], p13, ⟨put, ⟨us ++ [y12], upd_same, ?_⟩, fun a u n t q => ?_⟩, r12.put (vs := us ++ [y12]) hus List.mem_cons_self hLz hLb no5⟩
            · rw [hid_upd List.mem_cons_self]
              exact hau.append (.cons (q12.kp ed) .nil)
            · have ne : a ≠ L := fun e => by rw [e, hL] at q; cases q
              rw [upd_ne ne]
              exact a12.same a u n t q
          · exact p12.elim
      · have ej : j = ds1.length := by omega
        subst ej
        rw [List.drop_length] at p8
        exact .inl ⟨hJ1.stop H8 le8, acc8, p8, a8⟩
  · have ei : i = ds.length := by omega
    subst ei
    rw [List.drop_length] at p2
    obtain ⟨us, hus, hau⟩ := a2.at_
    refine .inl ⟨hJ.stop H2 le, ?_⟩
    exact gd (.own acc) _ H2 p2 (e.trans a2.same) a2.rel.gr.ext ⟨L, us, rfl, e.free hLz (.of hL), hLow, hus, hau⟩
theorem sim_lc2 {tg iter tg1 iter1 elt : Expr} {ifs ifs1 : List Expr} {scope : Scope} {own : List (Str × Nat)} {pos : Pos} {wi wi1 : WI} {b b1 : WB} {is is1 vs1 : List Nat} {tt tt1 : WT} {we : WE} (hc : X.calm = true) (hN : X.N.Nodup) (g0 : Gr Z ow0 Hb) (hi : SimI X W Z CL ow0 Hb tg iter wi) (ok : BlkOk X.N X.env.scope scope own) (his : ∀ i ∈ is, i ∈ own.map (·.2)) (his1 : ∀ i ∈ is1, i ∈ vs1) (hv : ∀ i ∈ vs1, i ∈ own.map (·.2))
    (hg : InBlk X scope fun Y => SimB Y Z CL ow0 Hb tg b is) (ht : InBlk X scope fun Y => SimTs Y W0 Z CL ow0 Hb ifs tt) (hi1 : InBlk X scope fun Y => SimI Y W0 Z CL ow0 Hb tg1 iter1 wi1) (hg1 : InBlk X scope fun Y => SimB Y Z CL ow0 Hb tg1 b1 is1) (ht1 : InBlk X scope fun Y => SimTs Y W0 Z CL ow0 Hb ifs1 tt1) (he : InBlk X scope fun Y => SimE Y W0 Z CL ow0 Hb elt we)
    (hs : ∀ x, foldedSetIterable iter X.env x = pure x := by intro _; rfl) (hs1 : ∀ env x, foldedSetIterable iter1 env x = pure x := by intro _ _; rfl) : SimE X W Z CL ow0 Hb (.ListComp elt [⟨tg, iter, ifs, 0⟩, ⟨tg1, iter1, ifs1, 0⟩] scope pos) (wLc2 wi b tt wi1 b1 tt1 we (own.map (·.2)) vs1) := by
  intro S ρ σ H ow P Ex Q r w g bd
  refine PEat.of (pe_lc2 (g := fun v σ H Q => InBlk X scope fun Y => PGat Y tg v σ H Q) (tt := fun σ H Q => InBlk X scope fun Y => PTsat Y ifs σ H Q) (wi1 := fun σ H R => InBlk X scope fun Y => PIat Y tg1 iter1 σ H fun J H' => Held Y H' → R J H') (g1 := fun v σ H Q => InBlk X scope fun Y => PGat Y tg1 v σ H Q) (tt1 := fun σ H Q => InBlk X scope fun Y => PTsat Y ifs1 σ H Q) (te := fun σ H Q => InBlk X scope fun Y => PEat Y elt σ H Q) hc hN PIat.pi ok hv
    (fun s H C cl fp => ⟨fun pins s' σ H' v u Q I rv h => (h s H C cl fp).go pins s' u I rv⟩) (fun s H C cl fp => ⟨fun pins s' σ H' Q I h => (h s H C cl fp).go pins s' I⟩) (fun s H C cl fp => ⟨fun pins s' σ H' R I h => PIat.pi.run pins s' σ H' R I (h s H C cl fp)⟩) (fun s H C cl fp => ⟨fun pins s' σ H' v u Q I rv h => (h s H C cl fp).go pins s' u I rv⟩) (fun s H C cl fp => ⟨fun pins s' σ H' Q I h => (h s H C cl fp).go pins s' I⟩) (fun s H C cl fp => ⟨fun pins s' σ H' Q I h => (h s H C cl fp).go pins s' I⟩) hs hs1) ?_
  refine lc2_sound (X := X) (W := W) (Z := Z) (CL := CL) (ow0 := ow0) (Hb := Hb) (scope := scope) hi his his1 g0 (fun r h w g s H C cl fp => ?_) (fun r w g s H C cl fp => ?_) (fun r w g s H C cl fp => ?_) (fun r h w g s H C cl fp => ?_) (fun r w g s H C cl fp => ?_) (fun r w g s H C cl fp => ?_) r w g bd
  · exact hg s H C cl fp _ _ _ _ _ _ _ _ _ r h w g
  · exact ht s H C cl fp _ _ _ _ _ _ _ _ r w g fun _ _ _ _ z => z.elim
  · exact hi1 s H C cl fp _ _ _ _ _ _ _ _ r w (fun ds J H' p e z j _ _ => g ds J H' p e z j) fun _ _ _ _ z => z.elim
  · exact hg1 s H C cl fp _ _ _ _ _ _ _ _ _ r h w g
  · exact ht1 s H C cl fp _ _ _ _ _ _ _ _ r w g fun _ _ _ _ z => z.elim
  · exact he s H C cl fp _ _ _ _ _ _ _ _ r w g fun _ _ _ _ z => z.elim
end
end Pd

namespace Pd
open PySem PySem.Spec PyProof.Rows L2
/-- the ints i, i + c, .. (n of them) -/
def stepV (i c : Int) (n : Nat) : List V := (List.range n).map fun j => V.int (i + (j : Nat) * c)
def stepD (i c : Int) (n : Nat) : List D := (List.range n).map fun j => .int (i + (j : Nat) * c)
theorem stepD_len (i c : Int) (n : Nat) : (stepD i c n).length = n := by simp [stepD]
theorem step_dt {K : PySem.W.Frag} {H : Hp} (i c : Int) (n : Nat) : DtAll K H (stepV i c n) (stepD i c n) := by
  unfold stepV stepD
  induction List.range n with
  | nil => exact .nil
  | cons i r ih => exact .cons (.int _) ih
theorem vals_step {i c : Int} {n : Nat} {acc : Array Value} (h : ItemsOf (fun j v => ∃ t, v = .int (i + j * c) t) acc n) : Vals (stepV i c n) acc.toList := by
  have e : acc.toList.length = n := by rw [Array.length_toList]; exact h.1
  unfold stepV
  rw [← e]
  refine vals_of_get acc.toList _ fun j u hj => ?_
  obtain ⟨t, rfl⟩ := h.2 j u (by rw [← hj, Array.getElem?_toList])
  exact ⟨t, rfl⟩
section
variable {X : Cx} {W : WX} {Z : Ext} {CL : Calls} {ow0 : List Addr} {Hb : Hp}
theorem pe_tupRg3 {a b c : Expr} {ta : TA} {p p2 q pos : Pos} (hc : X.calm = true) (hg : Gl X "tuple") (hm : X.mg "tuple" = none) (hg2 : Gl X "range") (hm2 : X.mg "range" = none) (ha : PA X [a, b, c] ta)
    (hs : starEach [a, b, c] X.env = (false, eval a X.env) :: starEach [b, c] X.env) (hpl : (backTo q (starEach [b, c] X.env)).any (·.1) = false)
    (na : starEach [(.Call (.Name "range" p2) [a, b, c] [] q : Expr)] X.env = (false, eval (.Call (.Name "range" p2) [a, b, c] [] q) X.env) :: starEach [] X.env) :
    PE X (.Call (.Name "tuple" p) [.Call (.Name "range" p2) [a, b, c] [] q] [] pos) (fun σ H Q => ta σ H fun vs H1 => ∃ (i j c : Int) (n : Nat), vs = [.int i, .int j, .int c] ∧ RgC i j c n ∧ n ≤ 2 ^ 24 ∧ ∀ q, H1 q = none → Q (.ref q) (upd H1 q (.tup (stepV i c n)))) := by
  refine ⟨fun pins s σ H Q I h => ?_⟩
  refine Call_ (ld_blt I hg hm boot_tuple (PyProof.Rows.callWith_type1 (args_cons (Q := fun vs s' => wpAny (model X.prog X.w) X.A (call (.type "tuple") vs) (EP X pins σ Q) X.xe s') ?_ na) na))
  refine Call_ (ld_blt I hg2 hm2 boot_range (PyProof.Rows.callWith_type1 (thn (ha.run q pins s σ H _ I h) fun us s1 ⟨vs, H1, I1, r1, q1⟩ => ?_) hs hpl))
  obtain ⟨i, j, k, n, e, ⟨c0, c1, c2, c3⟩, hn, q⟩ := q1
  subst e
  cases r1 with
  | cons r rr =>
    cases rr with
    | cons r' rr =>
      cases rr with
      | cons r'' rr =>
        cases rr
        obtain ⟨t, rfl⟩ := r
        obtain ⟨t', rfl⟩ := r'
        obtain ⟨t'', rfl⟩ := r''
        refine call_range_3 c0 ?_ (.inl (PyProof.noPylong_small c1))
        refine args_nil ?_
        have I2 : Inv X pins σ H1 { s1 with heap := s1.heap.push { cls := .type "range", data := .fields #[.int i t, .int j t', .int k t''] } } := I1.kept (t' := s1.toks) fun b o e => Heap.get?_push_of_some _ e
        refine call_tuple_range (n := n) (I2.ok.hd hc) (IsRange.new ..) c2 c3 hn fun h' tk acc hk hi => ?_
        have I3 : Inv X pins σ H1 { s1 with heap := h', toks := tk } := I2.kept hk
        refine ⟨.ref h'.objs.size, upd H1 h'.objs.size (.tup (stepV i k n)), I3.laid (t' := tk) (fun c o e => Heap.get?_push_of_some _ e) (Nat.le_refl _) (show ObjOk X.prog X.w _ _ _ (.tup (stepV i k n)) from ⟨?_, acc.toList, vals_step hi, ?_⟩), rfl, q _ (I3.hok.fresh (Nat.le_refl _))⟩
        · simp only [stepV, List.length_map, List.length_range]; rw [sizeLine_eq]; omega
        · rw [Array.toArray_toList]; exact IsTup.new _ _
def wTR3 (w : WA) : WE := fun ρ P Ex => w ρ (fun ys => match ys with
  | [x, y, z] => match x.rd, y.rd, z.rd with
    | some (.int i), some (.int j), some (.int c) => ∃ n, RgC i j c n ∧ n ≤ 2 ^ 24 ∧ P (.d (.tuple (stepD i c n)))
    | _, _, _ => False
  | _ => False) Ex
theorem sim_tupRg3 {a b c : Expr} {wa : WA} {p p2 q pos : Pos} (hc : X.calm = true) (h : SimA X W Z CL ow0 Hb [a, b, c] wa) (hg : Gl X "tuple") (hm : X.mg "tuple" = none) (hg2 : Gl X "range") (hm2 : X.mg "range" = none)
    (hs : starEach [a, b, c] X.env = (false, eval a X.env) :: starEach [b, c] X.env := by rfl) (hpl : (backTo q (starEach [b, c] X.env)).any (·.1) = false := by rfl)
    (na : starEach [(.Call (.Name "range" p2) [a, b, c] [] q : Expr)] X.env = (false, eval (.Call (.Name "range" p2) [a, b, c] [] q) X.env) :: starEach [] X.env := by rfl) :
    SimE X W Z CL ow0 Hb (.Call (.Name "tuple" p) [.Call (.Name "range" p2) [a, b, c] [] q] [] pos) (wTR3 wa) := by
  intro S ρ σ H ow P Ex Q r w g bd
  refine PEat.of (pe_tupRg3 hc hg hm hg2 hm2 PAat.pa hs hpl na) (h S ρ σ H ow _ Ex _ r w (fun ys vs H1 p e1 z1 qv => ?_) bd)
  split at p
  · split at p
    · rename_i x y z' i j k ei ej ek
      obtain ⟨n, p1, p2, p3⟩ := p
      cases qv with
      | cons q1 q2 =>
        cases q2 with
        | cons q2 q3 =>
          cases q3 with
          | cons q3 q4 =>
            cases q4
            exact ⟨i, j, k, n, by rw [q1.int ei, q2.int ej, q3.int ek], p1, p2, fun l hl => (g.step e1 r.gr.fpo).tup p3 (r.gr.step e1 z1) hl (step_dt _ _ _)⟩
    · exact p.elim
  · exact p.elim
end
end Pd

/-! Pd25: small data: what repr and == ask of a datum, kept by weight and depth. -/
namespace Pd
open PySem PySem.Spec PyProof.Rows L2
structure Sm (n k : Nat) (d : D) : Prop where
  sh : d.showable = true
  ls : d.leavesShort 13 = true
  wt : d.weight ≤ n
  dp : d.depth ≤ k
  pl : d.plain = true
structure SmAll (n k : Nat) (xs : List D) : Prop where
  sh : PyData.showableAll xs = true
  ls : PyData.leavesShortAll 13 xs = true
  wt : PyData.weightAll xs ≤ n
  dp : PyData.depthAll xs ≤ k
  pl : PyData.plainAll xs = true
variable {n k m j : Nat} {d : D} {xs : List D}
theorem Sm.mono (h : Sm n k d) (hn : n ≤ m) (hk : k ≤ j) : Sm m j d := ⟨h.sh, h.ls, Nat.le_trans h.wt hn, Nat.le_trans h.dp hk, h.pl⟩
theorem Sm.none : Sm 0 0 .none := ⟨rfl, rfl, Nat.le_refl _, Nat.le_refl _, rfl⟩
theorem Sm.bool (b : Bool) : Sm 0 0 (.bool b) := ⟨rfl, rfl, Nat.le_refl _, Nat.le_refl _, rfl⟩
theorem Sm.int {i : Int} (h1 : -999999999999 ≤ i) (h2 : i ≤ 999999999999) : Sm 40 0 (.int i) := by
  have l : i.natAbs < 2 ^ 40 := by omega
  have g : i.natAbs.log2 < 40 := by
    by_cases z : i.natAbs = 0
    · rw [z]; decide
    · exact (Nat.log2_lt z).mpr l
  refine ⟨?_, ?_, ?_, Nat.le_refl _, rfl⟩
  · simp only [PyData.showable, decide_eq_true_eq]; omega
  · simp only [PyData.leavesShort, decide_eq_true_eq]; exact PyData.shown_int_le2 h1 h2
  · simp only [PyData.weight]; split <;> omega
theorem Sm.str {s : Str} (h : s.cps.toList.all (fun c => decide (c < 16 ^ 8)) = true) (hl : s.length ≤ n) : Sm n 0 (.str s) := ⟨rfl, by simpa only [PyData.leavesShort] using h, by simp only [PyData.weight]; exact hl, Nat.le_refl _, rfl⟩
theorem SmAll.nil : SmAll 0 0 [] := ⟨rfl, rfl, Nat.le_refl _, Nat.le_refl _, rfl⟩
theorem SmAll.cons (h : Sm n k d) (r : SmAll m j xs) : SmAll (n + 1 + m) (max k j) (d :: xs) := by
  refine ⟨?_, ?_, ?_, ?_, ?_⟩
  · simp only [PyData.showableAll, h.sh, r.sh, Bool.and_self]
  · simp only [PyData.leavesShortAll, h.ls, r.ls, Bool.and_self]
  · have := h.wt; have := r.wt; simp only [PyData.weightAll]; omega
  · have := h.dp; have := r.dp; simp only [PyData.depthAll]; omega
  · simp only [PyData.plainAll, h.pl, r.pl, Bool.and_self]
theorem SmAll.of : ∀ {xs : List D}, (∀ d ∈ xs, Sm n k d) → SmAll (xs.length * (n + 1)) k xs
  | [], _ => ⟨rfl, rfl, by simp [PyData.weightAll], Nat.zero_le _, rfl⟩
  | x :: xs, h => by
    have a := SmAll.cons (h x List.mem_cons_self) (SmAll.of fun d m => h d (List.mem_cons_of_mem _ m))
    have e : (x :: xs).length * (n + 1) = n + 1 + xs.length * (n + 1) := by rw [List.length_cons, Nat.add_mul]; omega
    rw [e]
    rw [Nat.max_self] at a
    exact a
theorem SmAll.mono (h : SmAll n k xs) (hn : n ≤ m) (hk : k ≤ j) : SmAll m j xs := ⟨h.sh, h.ls, Nat.le_trans h.wt hn, Nat.le_trans h.dp hk, h.pl⟩
theorem SmAll.map {α : Type} {f : α → D} {l : List α} (h : ∀ a ∈ l, Sm n k (f a)) (hl : l.length ≤ m) : SmAll (m * (n + 1)) k (l.map f) := by
  have a : SmAll ((l.map f).length * (n + 1)) k (l.map f) := SmAll.of fun d hd => by
    obtain ⟨a, ha, rfl⟩ := List.mem_map.mp hd
    exact h a ha
  rw [List.length_map] at a
  exact a.mono (Nat.mul_le_mul_right _ hl) (Nat.le_refl _)
theorem SmAll.list (h : SmAll n k xs) : Sm n (k + 1) (.list xs) := ⟨by simp only [PyData.showable]; exact h.sh, by simp only [PyData.leavesShort]; exact h.ls, by simp only [PyData.weight]; exact h.wt, by simp only [PyData.depth]; exact Nat.add_le_add_right h.dp 1, by simp only [PyData.plain]; exact h.pl⟩
theorem SmAll.tup (h : SmAll n k xs) : Sm n (k + 1) (.tuple xs) := ⟨by simp only [PyData.showable]; exact h.sh, by simp only [PyData.leavesShort]; exact h.ls, by simp only [PyData.weight]; exact h.wt, by simp only [PyData.depth]; exact Nat.add_le_add_right h.dp 1, by simp only [PyData.plain]; exact h.pl⟩
theorem Sm.eqv (h : Sm n k d) : PyData.eqv d d = true := PySem.SeqAt.eqv_refl_plain d h.pl
theorem Sm.shown (h : Sm n k d) (hn : n ≤ 2 ^ 20) : d.shown.length ≤ sizeLine := PyData.shown_fits (by decide) (by decide) h.ls (Nat.le_trans h.wt hn)
/-- whole numbers -/
theorem SmAll.ints {l : List Int} (h : ∀ i ∈ l, -999999999999 ≤ i ∧ i ≤ 999999999999) (hl : l.length ≤ m) : SmAll (m * 41) 0 (l.map .int) := SmAll.map (fun i hi => Sm.int (h i hi).1 (h i hi).2) hl
end Pd

namespace Pd
open PySem PySem.Spec PyProof.Rows L2
/-- the scope that a block's scope is read as, within a block of scope out -/
def relS (inner out : Scope) : Scope :=
  { inner with names := inner.names.map fun (n, k) => if (k == .free && out.kind == .function && out.names.lookup n == some .cell) then (n, .cell) else (n, k) }
section
variable {X : Cx} {W : WX} {Z : Ext} {CL : Calls} {ow0 : List Addr} {Hb : Hp}
/-- a, b = x, y, kept as data -/
def wPar (i j : Nat) (wa : WA) : WS := fun E ρ => wa ρ (fun ys => match keeps ys with
  | some [d, e] => E.nx ((ρ.set i (some (.d d))).set j (some (.d e)))
  | _ => False) (fun x => E.ex x ρ)
def wPar3 (i j l : Nat) (wa : WA) : WS := fun E ρ => wa ρ (fun ys => match keeps ys with
  | some [d, e, f] => E.nx (((ρ.set i (some (.d d))).set j (some (.d e))).set l (some (.d f)))
  | _ => False) (fun x => E.ex x ρ)
theorem sim_par (i j : Nat) {x y : Str} {a b : Expr} {wa : WA} {px py pt pos : Pos} {kt k2 pt2} (hc : X.calm = true) (h : SimA X W Z CL ow0 Hb [a, b] wa) (hN : X.N.Nodup) (hij : i ≠ j := by decide)
    (hi : X.N[i]? = some x := by rfl) (hj : X.N[j]? = some y := by rfl) (hx : X.env.scope.names.lookup x = some .local := by rfl) (hy : X.env.scope.names.lookup y = some .local := by rfl)
    (hw : swappedStores [.Tuple [.Name x px, .Name y py] kt pt] (.Tuple [a, b] k2 pt2) X.env = pure (some [x, y]) := by rfl)
    (hs : swapsWithSole [.Tuple [.Name x px, .Name y py] kt pt] (.Tuple [a, b] k2 pt2) pos.line X.env = pure false := by rfl) :
    SimS X W Z CL ow0 Hb (.Assign [.Tuple [.Name x px, .Name y py] kt pt] (.Tuple [a, b] k2 pt2) pos) (wPar i j wa) := by
  intro S ρ σ H ow E D r w o
  refine PSat.of (ps_par hc hN hi hj hij hx hy PAat.pa hw hs) (h S ρ σ H ow _ _ _ r w (fun ys vs H' p e z q => ?_) (o.bd r))
  split at p
  · rename_i d e' ed
    have ha := q.keeps ed
    cases ha with
    | cons h1 ha =>
      cases ha with
      | cons h2 ha =>
        cases ha
        exact ⟨_, _, rfl, o.nx _ _ H' ow p (((r.step e z).setD h1).setD h2)⟩
  · exact p.elim
theorem sim_par3 (i j l : Nat) {x y u : Str} {a b c : Expr} {wa : WA} {px py pz pt pos : Pos} {kt k2 pt2} (hc : X.calm = true) (h : SimA X W Z CL ow0 Hb [a, b, c] wa) (hN : X.N.Nodup) (hij : i ≠ j := by decide) (hil : i ≠ l := by decide) (hjl : j ≠ l := by decide)
    (hi : X.N[i]? = some x := by rfl) (hj : X.N[j]? = some y := by rfl) (hl : X.N[l]? = some u := by rfl) (hx : X.env.scope.names.lookup x = some .local := by rfl) (hy : X.env.scope.names.lookup y = some .local := by rfl) (hz : X.env.scope.names.lookup u = some .local := by rfl)
    (hw : swappedStores [.Tuple [.Name x px, .Name y py, .Name u pz] kt pt] (.Tuple [a, b, c] k2 pt2) X.env = pure (some [x, y, u]) := by rfl)
    (hs : swapsWithSole [.Tuple [.Name x px, .Name y py, .Name u pz] kt pt] (.Tuple [a, b, c] k2 pt2) pos.line X.env = pure false := by rfl) :
    SimS X W Z CL ow0 Hb (.Assign [.Tuple [.Name x px, .Name y py, .Name u pz] kt pt] (.Tuple [a, b, c] k2 pt2) pos) (wPar3 i j l wa) := by
  intro S ρ σ H ow E D r w o
  refine PSat.of (ps_par3 hc hN hi hj hl hij hil hjl hx hy hz PAat.pa hw hs) (h S ρ σ H ow _ _ _ r w (fun ys vs H' p e z q => ?_) (o.bd r))
  split at p
  · rename_i d e' f' ed
    have ha := q.keeps ed
    cases ha with
    | cons h1 ha =>
      cases ha with
      | cons h2 ha =>
        cases ha with
        | cons h3 ha =>
          cases ha
          exact ⟨_, _, _, rfl, o.nx _ _ H' ow p ((((r.step e z).setD h1).setD h2).setD h3)⟩
  · exact p.elim
theorem lc2_parts {tg iter tg1 iter1 elt : Expr} {ifs ifs1 : List Expr} {scope : Scope} {own : List (Str × Nat)} {wi wi1 : WI} {b b1 : WB} {is is1 vs1 : List Nat} {tt tt1 : WT} {we : WE} (g0 : Gr Z ow0 Hb) (hi : SimI X W Z CL ow0 Hb tg iter wi) (his : ∀ i ∈ is, i ∈ own.map (·.2)) (his1 : ∀ i ∈ is1, i ∈ vs1)
    (hg : InBlk X scope fun Y => SimB Y Z CL ow0 Hb tg b is) (ht : InBlk X scope fun Y => SimTs Y W0 Z CL ow0 Hb ifs tt) (hi1 : InBlk X scope fun Y => SimI Y W0 Z CL ow0 Hb tg1 iter1 wi1) (hg1 : InBlk X scope fun Y => SimB Y Z CL ow0 Hb tg1 b1 is1) (ht1 : InBlk X scope fun Y => SimTs Y W0 Z CL ow0 Hb ifs1 tt1) (he : InBlk X scope fun Y => SimE Y W0 Z CL ow0 Hb elt we)
    {S : Hp} {ρ : Ev} {σ : L2.St} {H : Hp} {ow : List Addr} {P : Val → Prop} {Ex : Xn → Prop} {Q : VK} (r : Rel CL Z X.K ow0 Hb S ρ σ H ow) (w : wLc2 wi b tt wi1 b1 tt1 we (own.map (·.2)) vs1 ρ P Ex) (g : Gd CL Z X.K ow H P Q) (bd : Bd Z X.K ow X.mg W σ H Ex) :
    tLc2 (fun σ H R => PIat X tg iter σ H fun J H' => Held X H' → R J H') (fun v σ H Q => InBlk X scope fun Y => PGat Y tg v σ H Q) (fun σ H Q => InBlk X scope fun Y => PTsat Y ifs σ H Q) (fun σ H R => InBlk X scope fun Y => PIat Y tg1 iter1 σ H fun J H' => Held Y H' → R J H') (fun v σ H Q => InBlk X scope fun Y => PGat Y tg1 v σ H Q) (fun σ H Q => InBlk X scope fun Y => PTsat Y ifs1 σ H Q) (fun σ H Q => InBlk X scope fun Y => PEat Y elt σ H Q) (own.map (·.2)) vs1 σ H Q := by
  refine lc2_sound (X := X) (W := W) (Z := Z) (CL := CL) (ow0 := ow0) (Hb := Hb) (scope := scope) hi his his1 g0 (fun r h w g s H C cl fp => ?_) (fun r w g s H C cl fp => ?_) (fun r w g s H C cl fp => ?_) (fun r h w g s H C cl fp => ?_) (fun r w g s H C cl fp => ?_) (fun r w g s H C cl fp => ?_) r w g bd
  · exact hg s H C cl fp _ _ _ _ _ _ _ _ _ r h w g
  · exact ht s H C cl fp _ _ _ _ _ _ _ _ r w g fun _ _ _ _ z => z.elim
  · exact hi1 s H C cl fp _ _ _ _ _ _ _ _ r w (fun ds J H' p e z j _ _ => g ds J H' p e z j) fun _ _ _ _ z => z.elim
  · exact hg1 s H C cl fp _ _ _ _ _ _ _ _ _ r h w g
  · exact ht1 s H C cl fp _ _ _ _ _ _ _ _ r w g fun _ _ _ _ z => z.elim
  · exact he s H C cl fp _ _ _ _ _ _ _ _ r w g fun _ _ _ _ z => z.elim
/-- name = [.. for .. for ..] -/
theorem sim_setLc2D (i : Nat) {y : Str} {py : Pos} {tg iter tg1 iter1 elt : Expr} {ifs ifs1 : List Expr} {scope : Scope} {own : List (Str × Nat)} {pos spos : Pos} {wi wi1 : WI} {b b1 : WB} {is is1 vs1 : List Nat} {tt tt1 : WT} {we : WE} (hc : X.calm = true) (hN : X.N.Nodup) (g0 : Gr Z ow0 Hb) (hi : SimI X W Z CL ow0 Hb tg iter wi) (ok : BlkOk X.N X.env.scope scope own) (his : ∀ i ∈ is, i ∈ own.map (·.2)) (his1 : ∀ i ∈ is1, i ∈ vs1) (hv : ∀ i ∈ vs1, i ∈ own.map (·.2))
    (hg : InBlk X scope fun Y => SimB Y Z CL ow0 Hb tg b is) (ht : InBlk X scope fun Y => SimTs Y W0 Z CL ow0 Hb ifs tt) (hi1 : InBlk X scope fun Y => SimI Y W0 Z CL ow0 Hb tg1 iter1 wi1) (hg1 : InBlk X scope fun Y => SimB Y Z CL ow0 Hb tg1 b1 is1) (ht1 : InBlk X scope fun Y => SimTs Y W0 Z CL ow0 Hb ifs1 tt1) (he : InBlk X scope fun Y => SimE Y W0 Z CL ow0 Hb elt we)
    (hy : X.N[i]? = some y := by rfl) (hyl : X.env.scope.names.lookup y = some .local := by rfl) (hsw : swapsWith (.ListComp elt [⟨tg, iter, ifs, 0⟩, ⟨tg1, iter1, ifs1, 0⟩] scope pos) (some (.Name y py)) spos.line X.env = pure true := by exact sw_true rfl rfl rfl (by decide +kernel))
    (hs : ∀ x, foldedSetIterable iter X.env x = pure x := by intro _; rfl) (hs1 : ∀ env x, foldedSetIterable iter1 env x = pure x := by intro _ _; rfl) : SimS X W Z CL ow0 Hb (.Assign [.Name y py] (.ListComp elt [⟨tg, iter, ifs, 0⟩, ⟨tg1, iter1, ifs1, 0⟩] scope pos) spos) (wSetD i (wLc2 wi b tt wi1 b1 tt1 we (own.map (·.2)) vs1)) := by
  intro S ρ σ H ow E D r w o
  refine PSat.of (ps_setLc2 (g := fun v σ H Q => InBlk X scope fun Y => PGat Y tg v σ H Q) (tt := fun σ H Q => InBlk X scope fun Y => PTsat Y ifs σ H Q) (wi1 := fun σ H R => InBlk X scope fun Y => PIat Y tg1 iter1 σ H fun J H' => Held Y H' → R J H') (g1 := fun v σ H Q => InBlk X scope fun Y => PGat Y tg1 v σ H Q) (tt1 := fun σ H Q => InBlk X scope fun Y => PTsat Y ifs1 σ H Q) (te := fun σ H Q => InBlk X scope fun Y => PEat Y elt σ H Q) hc hN hy hyl hsw PIat.pi ok hv
    (fun s H C cl fp => ⟨fun pins s' σ H' v u Q I rv h => (h s H C cl fp).go pins s' u I rv⟩) (fun s H C cl fp => ⟨fun pins s' σ H' Q I h => (h s H C cl fp).go pins s' I⟩) (fun s H C cl fp => ⟨fun pins s' σ H' R I h => PIat.pi.run pins s' σ H' R I (h s H C cl fp)⟩) (fun s H C cl fp => ⟨fun pins s' σ H' v u Q I rv h => (h s H C cl fp).go pins s' u I rv⟩) (fun s H C cl fp => ⟨fun pins s' σ H' Q I h => (h s H C cl fp).go pins s' I⟩) (fun s H C cl fp => ⟨fun pins s' σ H' Q I h => (h s H C cl fp).go pins s' I⟩) hs hs1) ?_
  refine lc2_parts g0 hi his his1 hg ht hi1 hg1 ht1 he r w (fun t v H' p e z q => ?_) (o.bd r)
  split at p
  · rename_i d ed
    exact o.nx _ _ H' ow p ((r.step e z).setD (q.kp ed))
  · exact p.elim
end
end Pd

/-! Pd27: laws of loops over lists that are mapped; whole numbers below a bound. -/
namespace Pd
open PySem PySem.Spec PyProof.Rows L2
def upto (n : Int) : List Int := (List.range n.toNat).map fun (i : Nat) => (i : Int)
theorem mem_count {n i : Int} (h : i ∈ upto n) : 0 ≤ i ∧ i < n := by
  unfold upto at h
  obtain ⟨k, hk, rfl⟩ := List.mem_map.mp h
  have := List.mem_range.mp hk
  omega
theorem count_upto (n : Int) : countD 0 n.toNat = (upto n).map .int := by
  unfold countD upto
  rw [List.map_map]
  exact List.map_congr_left fun k _ => by simp
theorem upto_len (n : Int) : (upto n).length = n.toNat := by simp [upto]
theorem upto_succ (n : Nat) : upto ((n : Int) + 1) = upto n ++ [(n : Int)] := by
  unfold upto
  have e : ((n : Int) + 1).toNat = n + 1 := by omega
  have e2 : (n : Int).toNat = n := by omega
  rw [e, e2, List.range_succ, List.map_append]
  rfl
theorem find_range (p : Nat → Bool) : ∀ (m s : Nat), (List.range' s m).findIdx? p = ((List.range' s m).find? p).map (· - s)
  | 0, s => rfl
  | m + 1, s => by
    rw [List.range'_succ, List.findIdx?_cons, List.find?_cons]
    cases e : p s with
    | true => simp
    | false =>
      simp only [Bool.false_eq_true, if_false]
      rw [find_range p m (s + 1)]
      cases q : (List.range' (s + 1) m).find? p with
      | none => rfl
      | some x =>
        have hx := List.mem_range'_1.mp (List.mem_of_find?_eq_some q)
        simp only [Option.map_some]
        congr 1
        omega
theorem find_upto (p : Int → Bool) (n : Int) : (upto n).findIdx? p = ((upto n).find? p).map Int.toNat := by
  unfold upto
  rw [List.findIdx?_map, List.find?_map, List.range_eq_range', find_range]
  cases q : (List.range' 0 n.toNat).find? (p ∘ fun (i : Nat) => (i : Int)) with
  | none => simp_all
  | some x => simp_all
theorem find_some_upto {p : Int → Bool} {n i : Int} (h : (upto n).find? p = some i) : 0 ≤ i ∧ i < n := mem_count (List.mem_of_find?_eq_some h)
theorem enum_upto {α : Type} [Inhabited α] (l : List α) (f : α → D) : enumD (l.map f) = (upto l.length).map fun i => .tuple [.int i, f (l.getD i.toNat default)] := by
  apply List.ext_getElem
  · simp [enumD, upto]
  · intro i h1 h2
    have h3 : i < l.length := by simpa [enumD] using h1
    simp [enumD, upto, List.getD, h3]
theorem map_upto {α β : Type} [Inhabited α] (l : List α) (f : α → β) : l.map f = (upto l.length).map fun i => f (l.getD i.toNat default) := by
  apply List.ext_getElem
  · simp [upto]
  · intro i h1 h2
    have h3 : i < l.length := by simpa using h1
    simp [upto, List.getD, h3]
/-- each item made by g, over whole numbers -/
theorem lcW_upto {b : WB} {we : WE} {ρ0 : Ev} {P : List D → Prop} {n : Int} (g : Int → D) (h : ∀ i, 0 ≤ i → i < n → ∀ K : D → Prop, K (g i) → b ρ0 (.int i) fun ρ' => we ρ' (fun y => match y.kp with
      | some e => K e
      | none => False) (fun _ => False)) (hp : P ((upto n).map g)) : lcW b wYes we ρ0 P ((upto n).map .int) [] := by
  refine lcW_map (fun d => match d with
    | .int i => g i
    | d => d) (fun d m K hK => ?_) ?_
  · obtain ⟨i, hi, rfl⟩ := List.mem_map.mp m
    exact h i (mem_count hi).1 (mem_count hi).2 K hK
  · rw [List.nil_append, List.map_map]
    exact hp
/-- each item made by g, over what is mapped -/
theorem lcW_mapf {α : Type} {b : WB} {we : WE} {ρ0 : Ev} {P : List D → Prop} {xs : List α} (f g : α → D) (h : ∀ a ∈ xs, ∀ K : D → Prop, K (g a) → b ρ0 (f a) fun ρ' => we ρ' (fun y => match y.kp with
      | some e => K e
      | none => False) (fun _ => False)) : ∀ {acc : List D}, P (acc ++ xs.map g) → lcW b wYes we ρ0 P (xs.map f) acc := by
  induction xs with
  | nil =>
    intro acc q
    simpa [lcW] using q
  | cons d ds ih =>
    intro acc q
    rw [List.map_cons]
    unfold lcW
    have := h d List.mem_cons_self (fun e => lcW b wYes we ρ0 P (ds.map f) (acc ++ [e])) (ih (fun d m => h d (List.mem_cons_of_mem _ m)) (by simpa using q))
    exact this
/-- those that pass p, made by g -/
theorem lcW_fm {α : Type} {b : WB} {tt : WT} {we : WE} {ρ0 : Ev} {P : List D → Prop} {xs : List α} (f g : α → D) (p : α → Bool) (h : ∀ a ∈ xs, ∀ (K : List D → Prop) acc, K (if p a = true then acc ++ [g a] else acc) → b ρ0 (f a) fun ρ' => tt ρ' (fun c => if c = true then we ρ' (fun y => match y.kp with
      | some e => K (acc ++ [e])
      | none => False) (fun _ => False) else K acc) (fun _ => False)) : ∀ {acc : List D}, P (acc ++ (xs.filter p).map g) → lcW b tt we ρ0 P (xs.map f) acc := by
  induction xs with
  | nil =>
    intro acc q
    simpa [lcW] using q
  | cons d ds ih =>
    intro acc q
    rw [List.map_cons]
    unfold lcW
    have := h d List.mem_cons_self (fun acc' => lcW b tt we ρ0 P (ds.map f) acc') acc ?_
    · exact this
    · cases e : p d with
      | true =>
        rw [if_pos rfl]
        refine ih (fun d m => h d (List.mem_cons_of_mem _ m)) ?_
        rw [List.filter_cons_of_pos e] at q
        simpa using q
      | false =>
        rw [if_neg (by decide)]
        refine ih (fun d m => h d (List.mem_cons_of_mem _ m)) ?_
        rw [List.filter_cons_of_neg (by simp [e])] at q
        exact q
/-- a loop that returns at the first item that passes p -/
theorem forW_find {α : Type} {b : WB} {body : WS} {E : En} {f : α → D} {p : α → Bool} {Rt : α → Prop} (Sh : Ev → Prop) : ∀ {xs : List α}, (∀ a ∈ xs, ∀ ρ (K : Ev → Prop), Sh ρ → (p a = true → Rt a) → (p a = false → ∀ ρ', Sh ρ' → K ρ') → b ρ (f a) fun ρ' => body { E with nx := K, ct := K, bk := E.nx } ρ') →
    (match xs.find? p with
    | some a => Rt a
    | none => ∀ ρ, Sh ρ → E.nx ρ) → ∀ ρ, Sh ρ → forW b body E (xs.map f) ρ
  | [], _, h, ρ, s => h ρ s
  | a :: xs, st, h, ρ, s => by
    rw [List.map_cons]
    refine st a List.mem_cons_self ρ (forW b body E (xs.map f)) s (fun e => ?_) (fun e ρ' s' => ?_)
    · rw [List.find?_cons, e] at h
      exact h
    · rw [List.find?_cons, e] at h
      exact forW_find Sh (fun a m => st a (List.mem_cons_of_mem _ m)) h ρ' s'
theorem atI_map {α : Type} [Inhabited α] {l : List α} {f : α → D} {j : Int} (h0 : 0 ≤ j) (h1 : j < l.length) : atI (l.map f) j = some (f (l.getD j.toNat default)) := by
  unfold atI ixN
  have h2 : j < ((l.map f).length : Int) := by rw [List.length_map]; exact h1
  rw [if_pos h0, if_pos h2]
  have h3 : j.toNat < l.length := by omega
  simp [List.getD, h3]
theorem ix_tup {xs : List D} {j : Int} {d : D} {P : Val → Prop} (e : atI xs j = some d) (h : P (.d d)) : opIx (.d (.tuple xs)) (.d (.int j)) P := by
  show match atI xs j with
    | some d => P (.d d)
    | none => False
  rw [e]
  exact h
theorem eqv_strs (a b : Str) : PyData.eqv (.str a) (.str b) = (a == b) := by
  simp only [PyData.eqv]
theorem eqv_ints (a b : Int) : PyData.eqv (.int a) (.int b) = decide (a = b) := by
  simp only [PyData.eqv]
  rw [Bool.eq_iff_iff]
  simp
end Pd

/-! Pd28: laws of comprehensions of two walks; sorted whole numbers; inserting. -/
namespace Pd
open PySem PySem.Spec PyProof.Rows L2
theorem lcIn_map {b1 : WB} {we : WE} {ρ1 : Ev} {K : List D → Prop} (g : D → D) : ∀ {ds acc : List D}, (∀ d ∈ ds, ∀ K : D → Prop, K (g d) → b1 ρ1 d fun ρ' => we ρ' (fun y => match y.kp with
      | some e => K e
      | none => False) (fun _ => False)) → acc.length + ds.length ≤ sizeLine → K (acc ++ ds.map g) → lcIn b1 wYes we ρ1 K ds acc
  | [], acc, _, _, q => by
    unfold lcIn
    simpa using q
  | d :: ds, acc, h, hl, q => by
    unfold lcIn
    have := h d List.mem_cons_self (fun e => acc.length < sizeLine ∧ lcIn b1 wYes we ρ1 K ds (acc ++ [e])) ⟨by simp at hl; omega, lcIn_map g (fun d m => h d (List.mem_cons_of_mem _ m)) (by simp at hl ⊢; omega) (by simpa using q)⟩
    exact this
theorem lcOut_flat {α : Type} {b : WB} {wi1 : WI} {b1 : WB} {tt1 : WT} {we : WE} {vs1 : List Nat} {ρ0 : Ev} {P : List D → Prop} (f : α → D) (G : α → List D) : ∀ {xs : List α} {acc : List D}, (∀ a ∈ xs, ∀ (K : List D → Prop) (acc : List D), acc.length + (G a).length ≤ sizeLine → K (acc ++ G a) → b ρ0 (f a) fun ρ' => wi1 ρ' (fun ds1 => lcIn b1 tt1 we (wipeE ρ' vs1) K ds1 acc) (fun _ => False)) →
    acc.length + (xs.flatMap G).length ≤ sizeLine → P (acc ++ xs.flatMap G) → lcOut b wYes wi1 b1 tt1 we vs1 ρ0 P (xs.map f) acc
  | [], acc, _, _, q => by
    simpa [lcOut] using q
  | a :: xs, acc, h, hl, q => by
    rw [List.map_cons]
    unfold lcOut
    rw [List.flatMap_cons, List.length_append] at hl
    have := h a List.mem_cons_self (fun acc' => lcOut b wYes wi1 b1 tt1 we vs1 ρ0 P (xs.map f) acc') acc (by omega) (lcOut_flat f G (fun d m => h d (List.mem_cons_of_mem _ m)) (by rw [List.length_append]; omega) (by simpa [List.flatMap_cons] using q))
    exact this
theorem srt_ints (l : List Int) : srt (l.map .int) = (l.mergeSort (fun a b => decide (a ≤ b))).map .int := by
  unfold srt
  refine (List.map_mergeSort fun a _ b _ => ?_).symm
  exact (congrFun (congrFun (PySem.W.dataLe_int (β := Int) fun i => i) a) b).symm
theorem asc_ints {l : List Int} (h : l.Nodup) : (l.mergeSort (fun a b => decide (a ≤ b))).Pairwise (· < ·) := by
  have s := List.pairwise_mergeSort (le := fun (a b : Int) => decide (a ≤ b)) (fun a b c h1 h2 => by simp at *; omega) (fun a b => by simp; omega) l
  have n : (l.mergeSort (fun a b => decide (a ≤ b))).Nodup := (List.mergeSort_perm l _).nodup_iff.mpr h
  refine (s.and n).imp fun {a b} q => ?_
  have h1 := of_decide_eq_true q.1
  have h2 := q.2
  omega
theorem alike_ints (l : List Int) : PySem.W.AllAlike (l.map .int) ∧ PySem.W.Sortable (l.map .int) ∧ ∀ d ∈ l.map PyData.int, d.depth ≤ 100 := by
  refine ⟨fun d hd d' hd' => ?_, .inr fun d hd => ?_, fun d hd => ?_⟩
  · obtain ⟨a, _, rfl⟩ := List.mem_map.mp hd
    obtain ⟨b, _, rfl⟩ := List.mem_map.mp hd'
    rfl
  · obtain ⟨a, _, rfl⟩ := List.mem_map.mp hd
    exact ⟨(fun e => nomatch e), fun xs e => nomatch e⟩
  · obtain ⟨a, _, rfl⟩ := List.mem_map.mp hd
    simp [PyData.depth]
theorem insert_perm {α : Type} (zs ds : List α) (d : α) (n : Nat) : (zs.take n ++ [d] ++ zs.drop n ++ ds).Perm (zs ++ d :: ds) := by
  have h : (zs.take n ++ [d] ++ zs.drop n).Perm (d :: zs) := by
    have := List.perm_middle (a := d) (l₁ := zs.take n) (l₂ := zs.drop n)
    rw [List.take_append_drop] at this
    simpa using this
  exact (h.append_right ds).trans (List.perm_middle (a := d) (l₁ := zs) (l₂ := ds)).symm
end Pd

/-! Pd29: reorderings of what is mapped; cuts. -/
namespace Pd
open PySem PySem.Spec PyProof.Rows L2
theorem perm_map {α β : Type} {f : α → β} {zs ms : List β} (h : zs.Perm ms) : ∀ l0 : List α, ms = l0.map f → ∃ l : List α, l.Perm l0 ∧ zs = l.map f := by
  induction h with
  | nil =>
    intro l0 e
    have : l0 = [] := by simpa using e.symm
    subst this
    exact ⟨[], .nil, rfl⟩
  | cons x _ ih =>
    intro l0 e
    cases l0 with
    | nil => cases e
    | cons a l0 =>
      cases e
      obtain ⟨l, h1, h2⟩ := ih l0 rfl
      exact ⟨a :: l, h1.cons a, by rw [h2]; rfl⟩
  | swap x y l =>
    intro l0 e
    match l0, e with
    | a :: b :: l0, e =>
      cases e
      exact ⟨b :: a :: l0, .swap a b l0, rfl⟩
  | trans _ _ ih1 ih2 =>
    intro l0 e
    obtain ⟨l1, h1, h2⟩ := ih2 l0 e
    obtain ⟨l, h3, h4⟩ := ih1 l1 h2
    exact ⟨l, h3.trans h1, h4⟩
theorem cut_to {α : Type} (xs : List α) {k : Int} (h0 : 0 ≤ k) (h1 : k ≤ xs.length) : cutG xs none (some k) = xs.take k.toNat := by
  have i2 : HT.sIx xs.length xs.length (some k) = k.toNat := by
    simp only [HT.sIx]
    rw [if_neg (by omega)]
    omega
  unfold cutG
  rw [i2]
  simp [HT.sIx]
theorem cut_from {α : Type} (xs : List α) {k : Int} (h0 : 0 ≤ k) (h1 : k ≤ xs.length) : cutG xs (some k) none = xs.drop k.toNat := by
  have i1 : HT.sIx xs.length 0 (some k) = k.toNat := by
    simp only [HT.sIx]
    rw [if_neg (by omega)]
    omega
  unfold cutG
  rw [i1]
  simp [HT.sIx]
  exact List.take_of_length_le (by simp)
theorem upto_nodup (n : Int) : (upto n).Nodup := by
  unfold upto
  refine List.Pairwise.map _ (fun a b h => ?_) List.nodup_range
  omega
end Pd

/-! Pd30: own exceptions over ValueError whose __init__ hands two arguments on and keeps them. -/
namespace Pd
open PySem PySem.Spec PyProof.Rows L2

abbrev bmVE : List Value := [.type "ValueError", .type "Exception", .type "BaseException", .type "object"]
/-- the class at C, its __init__ the def st of the parameters self, a, b -/
structure Ini2 (P : Program) (K : PySem.W.Frag) (mg : Str → Option Value) (st : Stmt) (x a b : Str) (C : Addr) : Prop where
  fn : ∃ (fI cda cc : Addr) (qual : Str) (kV doc pm ct oc ccl cl : Value) (an od cdd cld : Option Addr) (osl ccs csl : Array (Option Value)) (vs : Array Value) (file : Str) (tf : Tok),
    K.lookup fI = some ⟨oc, od, .func (PySem.W.ksFn "__init__" qual (defArgs st) (defBody st) (defScope st) .none kV doc pm an (.ref cda) ct cc), osl⟩ ∧ PySem.W.codeIn K (.ref cda) qual = true ∧
    PySem.W.findIn K (.ref C) "__init__" = some (some (.ref fI)) ∧ PySem.W.typeIn K (.ref fI) = some (.type "function") ∧ K.lookup cda = some ⟨ccl, cdd, .fields vs, ccs⟩ ∧ vs[2]? = some (.str file tf) ∧
    ((P.main.file : Str) == file) = true ∧ K.lookup cc = some ⟨cl, cld, .cell (some (.ref C)), csl⟩
  cls : ∃ cd, PySem.W.clsIn K C = some cd ∧ PySem.HandSPX.refsVE cd.mro = true ∧ cd.hasDict = true
  exc : PySem.W.excInitIn K C bmVE "ValueError.__new__" = true
  glob : mg x = some (.ref C)
  keep : PySem.W.keepIn K (.ref C) = true
  sub : PySem.W.subIn K (.ref C) (.type "BaseException") = some true
  subV : PySem.W.subIn K (.ref C) (.type "ValueError") = some true
  typ : PySem.W.typeIn K (.ref C) = some (.type "type")
  mro : PySem.W.mroIn K C (.ref C) = some true
  sup : PySem.W.ks_superIn K C C "__init__" = some (some (.builtin "ValueError.__init__"))
  third : PySem.W.nsIn K cStatics "thirdparty.any" = some none
  sa : PySem.W.findIn K (.ref C) "__setattr__" = some (some (.builtin "object.__setattr__"))
  noA : PySem.W.findIn K (.ref C) a = some none
  noB : PySem.W.findIn K (.ref C) b = some none
  nosuper : mg "super" = none
/-- the text of the __init__ -/
structure IniT (P : Program) (st : Stmt) (a b : Str) : Prop where
  body : ∃ (p0 p1 p2 p3 p4 p5 p6 p7 p8 p9 p10 p11 p12 p13 p14 : Pos), defBody st =
    [.Expr (.Call (.Attribute (.Call (.Name "super" p0) [] [] p1) "__init__" p2) [.Name a p3, .Name b p4] [] p5) p6,
     .Assign [.Attribute (.Name "self" p7) a p8] (.Name a p9) p10, .Assign [.Attribute (.Name "self" p11) b p12] (.Name b p13) p14] ∧ (p2.endLine == p5.line) = true
  bind : ∀ (qual : Str) (kV doc pm ct cda : Value) (an : Option Addr) (cc : Addr) (u v w : Value), bindArgs (PySem.W.ksFn "__init__" qual (defArgs st) (defBody st) (defScope st) .none kV doc pm an cda ct cc) ⟨[u, v, w], []⟩ = pure [(("self" : Str), u), (a, v), (b, w)]
  par : ((defArgs st).posonlyargs ++ (defArgs st).args).head?.map (·.arg) = some "self"
  kind : (defScope st).kind = .function
  co : (defScope st).isCoroutine = false
  gen : (defScope st).isGenerator = false
  nocell : ∀ y ∈ (defScope st).names, y.2 ≠ .cell
  lself : (defScope st).names.lookup ("self" : Str) = some .local
  la : (defScope st).names.lookup a = some .local
  lb : (defScope st).names.lookup b = some .local
  lsup : (defScope st).names.lookup ("super" : Str) = some .globalImplicit
  lcls : (defScope st).names.lookup ("__class__" : Str) = some .free
  top : (P.main.scope.names.lookup ("super" : Str)).isSome = false
  nas : a ≠ "self"
  nbs : b ≠ "self"
  nab : a ≠ b
  nda : (a == ("__debug__" : Str)) = false
  ndb : (b == ("__debug__" : Str)) = false
/-- what the __init__ leaves of the exception at x -/
structure Made2 (h0 h : Heap) (x C dx : Addr) (a b : Str) (v w : Value) : Prop where
  keep : ∀ q o, h0.get? q = some o → h.get? q = some o
  obj : ∃ t : Addr, h.get? x = some ({ cls := .ref C, dict := some dx, data := .fields #[.ref t, .none, .none, .none, .bool false, .none] } : Obj)
  ns : h.Ns1 dx fun y => if y = b then some w else if y = a then some v else none
  newD : h0.get? dx = none
  newX : h0.get? x = none
  ne : dx ≠ x
section
variable {P : Program} {w : World} {K : PySem.W.Frag} {mg : Str → Option Value} {st : Stmt} {x a b : Str} {C : Addr}
open PySem.W PySem.Calls
/-- a store into an exception without a dict -/
theorem store_first {A : Around} {E : Value → Shared → Prop} {h : Heap} {g : Array GenState} {d : Drawn} {t : Nat} {os : OsState} {xa t0 : Addr} {f : Str} {u : Value} {Q : Unit → Shared → Prop} (X : K.In h) (cls : ∃ cd, clsIn K C = some cd ∧ PySem.HandSPX.refsVE cd.mro = true ∧ cd.hasDict = true)
    (sa : findIn K (.ref C) "__setattr__" = some (some (.builtin "object.__setattr__"))) (no : findIn K (.ref C) f = some none) (ho : h.get? xa = some ({ cls := .ref C, dict := none, data := .fields #[.ref t0, .none, .none, .none, .bool false, .none] } : Obj))
    (hq : ∀ h' t' dx, (∀ q o, q ≠ xa → h.get? q = some o → h'.get? q = some o) → h.objs.size ≤ dx → dx ≠ xa → h'.get? xa = some ({ cls := .ref C, dict := some dx, data := .fields #[.ref t0, .none, .none, .none, .bool false, .none] } : Obj) →
      h'.Ns1 dx (fun y => if y = f then some u else none) → Q () ⟨h', g, d, t', os⟩) :
    wpAny (model P w) A (setAttr (.ref xa) f u) Q E ⟨h, g, d, t, os⟩ := by
  obtain ⟨cd, hcl, hre, hdc⟩ := cls
  refine set_plain X (ox := { cls := .ref C, dict := none, data := .fields #[.ref t0, .none, .none, .none, .bool false, .none] }) (od := none) ⟨ho, rfl, rfl, trivial⟩ sa ?_
  exact PySem.HandSPX.exc_osa X ho hcl hre hdc no fun h' tk' dx k dn dne hx hn => hq h' tk' dx k dn dne hx hn
/-- a further one -/
theorem store_more {A : Around} {E : Value → Shared → Prop} {h : Heap} {g : Array GenState} {d : Drawn} {t : Nat} {os : OsState} {xa t0 dx : Addr} {f : Str} {u : Value} {m0 : Str → Option Value} {nl : List Str} {Q : Unit → Shared → Prop} (X : K.In h) (cls : ∃ cd, clsIn K C = some cd ∧ PySem.HandSPX.refsVE cd.mro = true ∧ cd.hasDict = true)
    (sa : findIn K (.ref C) "__setattr__" = some (some (.builtin "object.__setattr__"))) (no : findIn K (.ref C) f = some none) (ho : h.get? xa = some ({ cls := .ref C, dict := some dx, data := .fields #[.ref t0, .none, .none, .none, .bool false, .none] } : Obj)) (hn : h.Ns1 dx m0) (hw : Within m0 nl) (hz : nl.length ≤ 1000)
    (hq : ∀ h' t', (∀ q o, q ≠ dx → h.get? q = some o → h'.get? q = some o) → h'.Ns1 dx (fun y => if y = f then some u else m0 y) → Q () ⟨h', g, d, t', os⟩) :
    wpAny (model P w) A (setAttr (.ref xa) f u) Q E ⟨h, g, d, t, os⟩ := by
  obtain ⟨cd, hcl, hre, hdc⟩ := cls
  obtain ⟨oD, _, _, hoD, _, _⟩ := hn.count hw
  refine set_plain X (ox := { cls := .ref C, dict := some dx, data := .fields #[.ref t0, .none, .none, .none, .bool false, .none] }) (od := some oD) ⟨ho, rfl, rfl, hoD⟩ sa ?_
  exact PySem.OEX.osa_old X ho hn hw hz hcl hre hdc no fun h' tk' k hn' => hq h' tk' k hn'

theorem call_form {o : Expr} {name : Str} {apos pos p3 p4 : Pos} {env : Env} (h : (apos.endLine == pos.line) = true) : eval (.Call (.Attribute o name apos) [.Name a p3, .Name b p4] [] pos) env = (do
      let ov ← attributeBase o name env (eval o env)
      standAt apos.atName
      let (f, first) ← holding [ov] (getMethod ov name (do return (← importBound o env).getD true))
      callWith pos f first (backTo pos (starEach [.Name a p3, .Name b p4] env)) []) := by
  rw [arm_eval_Call]
  have e : methodCallForm ([Expr.Name a p3, .Name b p4].length + ([] : List Keyword).length) (backTo pos (starEach [.Name a p3, .Name b p4] env)) (backToKw pos (keywordEach [] env)) = true := rfl
  unfold methodCall
  rw [e]
  unfold calleeOf methodCallPos
  rw [h]
  rfl
theorem boot_super : bootBuiltins "super" = some (.type "super") := by first | boot_by_name | rfl | kernel_rfl
set_option maxHeartbeats 4000000 in
theorem ini2_run {A : Around} {s : Shared} {h0 : Heap} {fI xa t0 : Addr} {v w' : Value} {R : Result → Shared → Prop} (T : Ini2 P K mg st x a b C) (TT : IniT P st a b) (kin : K.In h0) (glob : h0.Ns mainGlobals mg) (blt : ∃ mb, h0.Ns builtinsNs mb ∧ ∀ x : Str, x ≠ "__name__" → mb x = bootBuiltins x)
    (nolimit : h0.NoLimit) (keep0 : ∀ q o, h0.get? q = some o → s.heap.get? q = some o) (hsz : h0.objs.size ≤ s.heap.objs.size) (hx : s.heap.get? xa = some (excObj C t0 none .none)) (nx : h0.get? xa = none) (room : A.depth < recursionLimit)
    (hfI : findIn K (.ref C) "__init__" = some (some (.ref fI)))
    (hq : ∀ h' dx t', Made2 h0 h' xa C dx a b v w' → R (.ok (.ret .none)) { s with heap := h', toks := t' }) :
    codeAny (model P w) A (.call (.ref fI) ⟨[.ref xa, v, w'], []⟩) R s := by
  obtain ⟨fI', cda, cc, qual, kV, doc, pm, ct, oc, ccl, cl, an, od, cdd, cld, osl, ccs, csl, vs, file, tf, hf, hcode, hini, htyp, hcd, hvs, hfile, hcell⟩ := T.fn
  obtain rfl : fI' = fI := by
    rw [hini] at hfI
    exact Value.ref.inj (Option.some.inj (Option.some.inj hfI))
  obtain ⟨p0, p1, p2, p3, p4, p5, p6, p7, p8, p9, p10, p11, p12, p13, p14, hb, hpos⟩ := TT.body
  have X : K.In s.heap := kin.keeps keep0
  have hloc : ∀ y ∈ [(("self" : Str), Value.ref xa), (a, v), (b, w')], (defScope st).names.lookup y.1 = some .local := by
    intro y hy
    simp only [List.mem_cons, List.not_mem_nil, or_false] at hy
    rcases hy with rfl | rfl | rfl
    · exact TT.lself
    · exact TT.la
    · exact TT.lb
  refine ks_codeAny_call_defAt (fd := ksFn "__init__" qual (defArgs st) (defBody st) (defScope st) .none kV doc pm an (.ref cda) ct cc) (body := defBody st) (binds := [("self", .ref xa), (a, v), (b, w')]) room (X _ _ hf) rfl (nolimit.keeps keep0) (codeRec_of X hcode) rfl (BindsTo.of_eq (TT.bind ..)) TT.nocell hloc (fun h₁ hns hk₁ => ?_) TT.co TT.gen TT.kind
  have k1 : ∀ q o, h0.get? q = some o → h₁.get? q = some o := fun q o e => hk₁ q o (keep0 q o e)
  have F1 : Fr h0 s.heap.objs.size h₁ (fun y => [(("self" : Str), Value.ref xa), (a, v), (b, w')].reverse.lookup y) := ⟨hns, k1, hsz⟩
  have N1 : News h0 s.heap.objs.size h₁ [(xa, excObj C t0 none .none)] := by
    intro p hp
    simp only [List.mem_singleton] at hp
    subst hp
    exact ⟨hk₁ _ _ hx, Nat.ne_of_lt (Heap.lt_size hx), nx⟩
  have X1 : K.In h₁ := kin.keeps k1
  have mself : (fun y => [(("self" : Str), Value.ref xa), (a, v), (b, w')].reverse.lookup y) "self" = some (.ref xa) := by
    have e1 : (("self" : Str) == b) = false := by simpa using fun z => TT.nbs (by rw [← z])
    have e2 : (("self" : Str) == a) = false := by simpa using fun z => TT.nas (by rw [← z])
    simp [List.lookup, e1, e2]
  have ma : (fun y => [(("self" : Str), Value.ref xa), (a, v), (b, w')].reverse.lookup y) a = some v := by
    have e1 : (a == b) = false := by simpa using TT.nab
    simp [List.lookup, e1]
  have mb : (fun y => [(("self" : Str), Value.ref xa), (a, v), (b, w')].reverse.lookup y) b = some w' := by simp [List.lookup]
  generalize (fun y => [(("self" : Str), Value.ref xa), (a, v), (b, w')].reverse.lookup y) = m at F1 mself ma mb
  generalize eL : s.heap.objs.size = L at F1 N1 ⊢
  obtain ⟨ar, har, hself⟩ := Option.map_eq_some_iff.mp TT.par
  show PySem.wpAt _ _ (.func (defBody st) (ksEnv qual (defScope st) L fI' (.ref cda) cc)) (execs (defBody st) (ksEnv qual (defScope st) L fI' (.ref cda) cc)) _ _ _
  have q1 : (ksEnv qual (defScope st) L fI' (.ref cda) cc).kindOf "super" = some .globalImplicit := TT.lsup
  have q2 : (ksEnv qual (defScope st) L fI' (.ref cda) cc).kindOf "__class__" = some .free := TT.lcls
  have q3 : (ksEnv qual (defScope st) L fI' (.ref cda) cc).func = some fI' := rfl
  have q4 : (ksEnv qual (defScope st) L fI' (.ref cda) cc).code = .ref cda := rfl
  have q5 : (ksEnv qual (defScope st) L fI' (.ref cda) cc).cells.lookup ("__class__" : Str) = some cc := rfl
  have q6 : (ksEnv qual (defScope st) L fI' (.ref cda) cc).locals = L := rfl
  have q7 : (ksEnv qual (defScope st) L fI' (.ref cda) cc).scope.kind = .function := TT.kind
  have q8 : (ksEnv qual (defScope st) L fI' (.ref cda) cc).globals = mainGlobals := rfl
  have q9 : (ksEnv qual (defScope st) L fI' (.ref cda) cc).builtins = builtinsNs := rfl
  have q10 : (ksEnv qual (defScope st) L fI' (.ref cda) cc).kindOf "self" = some .local := TT.lself
  have q11 : (ksEnv qual (defScope st) L fI' (.ref cda) cc).kindOf a = some .local := TT.la
  have q12 : (ksEnv qual (defScope st) L fI' (.ref cda) cc).kindOf b = some .local := TT.lb
  have q13 : interactive (ksEnv qual (defScope st) L fI' (.ref cda) cc) = false := by unfold interactive; rw [q7]; rfl
  refine ks_wpAt_mono (Q := fun f s' => f = .next ∧ ∃ h' dx t', s' = { s with heap := h', toks := t' } ∧ Made2 h0 h' xa C dx a b v w') (E := fun _ _ => False) ?_ (fun f s' hh => by
    obtain ⟨rfl, h', dx, t', rfl, md⟩ := hh
    exact hq h' dx t' md) fun _ _ z => z.elim
  generalize A.deeper _ = A'
  generalize ksEnv qual (defScope st) L fI' (.ref cda) cc = env at q1 q2 q3 q4 q5 q6 q7 q8 q9 q10 q11 q12 q13 ⊢
  rw [hb]
  refine ks_wpAt_execs_cons (ks_wpAt_Expr_any (ks_wpAt_MethodCall ?_ (call_form hpos)) q13 rfl)
  refine ks_wpAt_super_base q1 q2 (by decide) q3 (X1 _ _ hf) rfl har q4 (X1 _ _ hcd) rfl hvs hfile TT.top ?_
  obtain ⟨mbt, hblt, hbt⟩ := blt
  refine ks_loadName_global q7 q1 (loadGlobal_builtin (by rw [q8]; exact glob.keeps k1) T.nosuper (by rw [q9]; exact hblt.keeps k1) ((hbt _ (by decide)).trans boot_super) ⟨rfl, ?_⟩)
  refine wpAny_loadName_free q7 q2 q5 ⟨_, X1 _ _ hcell, rfl⟩ ?_
  rw [hself]
  refine wpAny_loadName_local q7 q10 (by rw [q6]; exact F1.ns) mself ?_
  obtain ⟨cd, hcl, hre, hdc⟩ := T.cls
  obtain ⟨oD, hD1, hD2⟩ : ∃ oD, h₁.get? C = some oD ∧ oD.data = .cls cd := by
    have hcl' := hcl
    unfold clsIn at hcl'
    split at hcl'
    · rename_i c d cd' sl ho
      cases hcl'
      exact ⟨_, X1 _ _ ho, rfl⟩
    · cases hcl'
  refine ks_wpAny_isType_cls hD1 hD2 ⟨rfl, ?_⟩
  have hx1 := (N1 _ (List.mem_singleton.mpr rfl)).1
  refine ks_wpAny_call_super hD1 hD2 hx1 rfl (fun c e => by cases e) (looks_mroIn X1 T.mro) (fun h2 e2 k2 => ?_)
  obtain ⟨F2, N2, l2⟩ := ks_newsPush F1 N1 (s := ⟨h₁, s.gens, s.drawn, s.toks, s.os⟩) rfl e2 k2
  refine kxs_method (m := m) (L := L) (h₀ := h0) (x := xa) (C := C) (D := C) kxs_ValueError F2 kin N2 (List.mem_cons_self) (InstAt.of_exc0 N2 (List.mem_cons_of_mem _ List.mem_cons_self)) T.third T.sup T.subV (by decide) (fun u h3 F3 N3 l3 => ?_)
  refine kxs_callWith1 (i := "ValueError.__init__") (x := xa) N3 List.mem_cons_self ?_
  refine spliced_more (wpAny_Name (wpAny_loadName_local q7 q11 (by rw [q6]; exact F3.ns) ma ?_) TT.nda)
  refine spliced_more (wpAny_Name (wpAny_loadName_local q7 q12 (by rw [q6]; exact F3.ns) mb ?_) TT.ndb)
  refine spliced_none ⟨kxs_at N3 List.mem_cons_self, ?_⟩
  have ne1 : u ≠ xa := fun z => by
    have y := l3 _ (List.mem_cons_of_mem _ List.mem_cons_self)
    rw [z] at y
    exact Nat.lt_irrefl _ y
  have ne2 : h₁.objs.size ≠ xa := fun z => by
    have y := l2 _ List.mem_cons_self
    rw [z] at y
    exact Nat.lt_irrefl _ y
  refine kxs_call (x := xa) (i := "ValueError.__init__") (B := "ValueError") F3 kin N3 F.excBase_ValueError T.exc List.mem_cons_self (.tail ne1 (.tail ne2 (.head (fun _ z => nomatch z)))) (by rw [sizeLine_eq]; show 2 ≤ 16777216; decide) (fun t4 h4 F4 N4 l4 => ?_)
  have hx4 : h4.get? xa = some (excObj C t4 none .none) := (N4 (xa, excObj C t4 none .none) (by simp)).1
  have L4 : L ≠ xa := fun z => (N1 _ (List.mem_singleton.mpr rfl)).2.1 z.symm
  have X4 : K.In h4 := kin.keeps F4.keep
  refine wpAt_of_wpAny ?_
  refine wpAny_execs_cons (plainObj_wpAny_Assign_Attribute (wpAny_Name (wpAny_loadName_local q7 q11 (by rw [q6]; exact F4.ns) ma ?_) TT.nda))
  refine wpAny_Name (wpAny_loadName_local q7 q10 (by rw [q6]; exact F4.ns) mself ?_)
  refine store_first X4 T.cls T.sa T.noA hx4 (fun h5 t5 dx k5 dn dne hx5 hn5 => ?_)
  have hns5 : h5.Ns L m := by
    obtain ⟨oL, es, ep, hL, r⟩ := F4.ns
    exact ⟨oL, es, ep, k5 _ _ L4 hL, r⟩
  have keep5 : ∀ q o, h0.get? q = some o → h5.get? q = some o := fun q o e => k5 q o (fun z => by rw [z, nx] at e; cases e) (F4.keep q o e)
  have X5 : K.In h5 := kin.keeps keep5
  have nd4 : ∀ {q : Addr} {o : Obj}, h4.get? q = some o → q ≠ dx := fun {q o} e => Nat.ne_of_lt (Nat.lt_of_lt_of_le (Heap.lt_size e) dn)
  have hw : Within (fun y => if y = a then some v else none) [a] := fun y hy => by
    by_cases e : y = a
    · rw [e]; exact List.mem_cons_self
    · simp only [if_neg e] at hy; exact absurd rfl hy
  refine wpAny_execs_cons (plainObj_wpAny_Assign_Attribute (wpAny_Name (wpAny_loadName_local q7 q12 (by rw [q6]; exact hns5) mb ?_) TT.ndb))
  refine wpAny_Name (wpAny_loadName_local q7 q10 (by rw [q6]; exact hns5) mself ?_)
  refine store_more X5 T.cls T.sa T.noB hx5 hn5 hw (by simp) (fun h6 t6 k6 hn6 => ?_)
  refine wpAny_execs_nil ⟨rfl, h6, dx, _, rfl, ?_⟩
  exact ⟨fun q o e => k6 q o (nd4 (F4.keep q o e)) (keep5 q o e), ⟨t4, k6 _ _ dne.symm hx5⟩, hn6, by
    cases e : h0.get? dx with
    | none => rfl
    | some o => exact absurd rfl (nd4 (F4.keep _ _ e)), nx, dne⟩
end
section
variable {X : Cx} {st : Stmt} {x a b : Str} {C : Addr}
set_option maxHeartbeats 4000000 in
theorem pmk_ini2 {p pos : Pos} {e1 e2 : Expr} {ta : TA} (T : Ini2 X.prog X.K X.mg st x a b C) (TT : IniT X.prog st a b) (hr : Room 2 X.A) (hg : Gl X x) (ha : PA X [e1, e2] ta) (hdb : (x == ("__debug__" : Str)) = false := by decide)
    (he : starEach [e1, e2] X.env = (false, eval e1 X.env) :: starEach [e2] X.env := by rfl) (hpl : (backTo pos (starEach [e2] X.env)).any (·.1) = false := by rfl) :
    PMk X (.Call (.Name x p) [e1, e2] [] pos) (fun σ H Q => ta σ H fun vs H1 => ∃ v1 v2, vs = [v1, v2] ∧ ∀ d, H1 d = none → Q (.ref C) (some d) (upd H1 d (.xd [(a, v1), (b, v2)]))) := by
  intro pins s σ H Q I h
  obtain ⟨fI, _, _, _, _, _, _, _, _, _, _, _, _, _, _, _, _, _, _, _, _, _, _, hini, htyp, _⟩ := T.fn
  refine wpAny_Call_Name_kw (ld_glob I hg T.glob ?_ hdb)
  refine PySem.W.callWith_K (h₀ := X.base) I.ok.mod.kin T.keep (thn (ha.run pos pins s σ H _ I h) fun us s1 ⟨vs, H1, I1, r1, v1, v2, ev, q1⟩ => ⟨I1.kIn, ?_⟩) he hpl
  show wpAny _ _ (call (.ref C) us) _ _ _
  subst ev
  obtain ⟨u1, us, rfl⟩ : ∃ u1 us', us = u1 :: us' := by cases r1; exact ⟨_, _, rfl⟩
  obtain ⟨ru1, r1⟩ : RelV v1 u1 ∧ Vals [v2] us := by cases r1; exact ⟨by assumption, by assumption⟩
  obtain ⟨u2, us, rfl⟩ : ∃ u1 us', us = u1 :: us' := by cases r1; exact ⟨_, _, rfl⟩
  obtain ⟨ru2, r1⟩ : RelV v2 u2 ∧ Vals [] us := by cases r1; exact ⟨by assumption, by assumption⟩
  obtain rfl : us = [] := by cases r1; rfl
  obtain ⟨hp, g, dr, tk, os⟩ := s1
  obtain ⟨nm, N', qn, bs, bm, hdct, sn, sub, ab, col, dd, k0, k1, k2, k3, k5, hC, hT⟩ := PySem.W.excInit_of I1.kIn T.exc
  have kk : ∀ q o, hp.get? q = some o → ((hp.push (PySem.W.kdv_tup [u1, u2])).push (PySem.HandSPX.excO C hp.objs.size)).get? q = some o := fun q o e => Heap.get?_push_of_some _ (Heap.get?_push_of_some _ e)
  have hget : ((hp.push (PySem.W.kdv_tup [u1, u2])).push (PySem.HandSPX.excO C hp.objs.size)).get? (hp.objs.size + 1) = some (PySem.HandSPX.excO C hp.objs.size) := by heap_get
  obtain ⟨mbt, hblt, hbt⟩ := I1.mod.blt
  refine wpAny_call (PySem.HandSPX.call_own F.excBase_ValueError hT hC (PySem.W.looks_findIn I1.kIn hini) (fun self => PySem.W.bind_fn I1.kIn self htyp) (by rw [sizeLine_eq]; show 2 ≤ 16777216; decide)
    (ini2_run (h0 := hp) (t0 := hp.objs.size) (v := u1) (w' := u2) T TT I1.kIn (I1.mod.glob.keeps I1.bk) ⟨mbt, hblt.keeps I1.bk, hbt⟩ I1.nolimit kk (by simp [Heap.size_push]; omega) hget (Heap.get?_none_of_le (Nat.le_succ _)) (hr.make C _ _).depth hini (fun h' dx t' md => ?_)))
  refine ⟨rfl, ?_⟩
  obtain ⟨t1, hobj⟩ := md.obj
  obtain ⟨G, g1, g2⟩ := restrict h' fun q => decide (q ≠ hp.objs.size + 1)
  have gk : ∀ q, q ≠ hp.objs.size + 1 → G.get? q = h'.get? q := fun q hq => g1 q (decide_eq_true hq)
  have ge : G.get? (hp.objs.size + 1) = none := g2 _ (by simp)
  have gn : ∀ q o, hp.get? q = some o → q ≠ hp.objs.size + 1 := fun q o e z => by rw [z, md.newX] at e; cases e
  have kG : ∀ q o, G.get? q = some o → h'.get? q = some o := fun q o e => by
    by_cases hq : q = hp.objs.size + 1
    · rw [hq, ge] at e; cases e
    · rw [gk q hq] at e; exact e
  have hd0 : H1 dx = none := I1.hok.gone md.newD
  have J : Inv X pins σ (upd H1 dx (.xd [(a, v1), (b, v2)])) { (⟨hp, g, dr, tk, os⟩ : Shared) with heap := G, toks := t' } := I1.laidN (fun q o e => (gk q (gn q o e)).trans (md.keep q o e)) md.newD hd0 (by
    refine ⟨_, md.ns.at fun o e => (gk dx md.ne).trans e, fun f => ?_⟩
    by_cases e1 : f = a
    · subst e1
      have nb : ¬ f = b := TT.nab
      simp only [List.lookup, beq_self_eq_true, if_neg nb, if_true]
      exact ru1
    · have e1' : (f == a) = false := by simpa using e1
      by_cases e2 : f = b
      · subst e2
        simp only [List.lookup, e1', beq_self_eq_true, if_true]
        exact ru2
      · have e2' : (f == b) = false := by simpa using e2
        simp only [List.lookup, e1', e2', if_neg e1, if_neg e2]
        exact True.intro)
  refine ⟨hp.objs.size + 1, _, _, _, _, .ref C, some dx, rfl, J, kG, ge, hobj, ⟨rfl, rfl⟩, rfl, rfl, ?_, rfl, I1.bare, raises_own T.sub T.typ, q1 dx hd0⟩
  rw [upd_ne (Ne.symm md.ne)]
  exact I1.hok.gone md.newX
end
end Pd

/-! Pd31: except clauses, several, with and without a name; X(a, b) raised, over data. -/
namespace Pd
open PySem PySem.Spec PyProof.Rows L2

/-- a clause: the class's value, the slot of its name, what its suite reads -/
abbrev Cls1 := Value × Option Nat × (Addr → Value → Option Addr → TS)
def inName (D : L2.Ends) : Option Nat → L2.Ends
  | none => D
  | some i => ⟨fun τ G => D.nx (τ.set i none) G, D.rt, fun τ G => D.bk (τ.set i none) G, fun τ G => D.ct (τ.set i none) G⟩
def atName (τ : L2.St) (p : Addr) : Option Nat → L2.St
  | none => τ
  | some i => τ.set i (some (.ref p))
def wMix (K : PySem.W.Frag) (n : Nat) (Wo : WX) (D : L2.Ends) : List Cls1 → WX
  | [] => Wo
  | (cv, nm, ts) :: r => fun k dd τ G => ∃ hit, PySem.W.exmOne K k cv = some hit ∧ (hit = true → τ.length = n → ∀ p, G p = none → ts p k dd (inName D nm) (atName τ p nm) G) ∧ (hit = false → wMix K n Wo D r k dd τ G)
inductive HdM (X : Cx) : List ExceptHandler → List Cls1 → Prop
  | nil : HdM X [] []
  | plain {x : Str} {cv : Value} {ts : Addr → Value → Option Addr → TS} {s0 : Stmt} {ss : List Stmt} {q1 q2 : Pos} {hl : List ExceptHandler} {cl : List Cls1} (names : Names X x cv)
      (run : ∀ (p : Addr) (ob : Obj) (k : Value) (dd : Option Addr) (pl : List (Addr × Obj)), Zc k dd ob → (∃ fs, ob.data = .fields fs) → PSs (X.suite p ((p, ob) :: pl)) (s0 :: ss) (ts p k dd)) (more : HdM X hl cl) :
      HdM X (.ExceptHandler (some (.Name x q1)) none (s0 :: ss) q2 :: hl) ((cv, none, ts) :: cl)
  | named {x n : Str} {i : Nat} {cv : Value} {ts : Addr → Value → Option Addr → TS} {s0 : Stmt} {ss : List Stmt} {q1 q2 : Pos} {hl : List ExceptHandler} {cl : List Cls1} (names : Names X x cv) (slot : X.N[i]? = some n) (loc : X.env.kindOf n = some .local)
      (run : ∀ (p : Addr) (ob : Obj) (k : Value) (dd : Option Addr) (pl : List (Addr × Obj)), Zc k dd ob → (∃ fs, ob.data = .fields fs) → PSs (X.suite p ((p, ob) :: pl)) (s0 :: ss) (ts p k dd)) (more : HdM X hl cl) :
      HdM X (.ExceptHandler (some (.Name x q1)) (some n) (s0 :: ss) q2 :: hl) ((cv, some i, ts) :: cl)
section
variable {X : Cx} {bd : List Stmt} {hd0 : ExceptHandler} {hl : List ExceptHandler} {cl : List Cls1} {tp : Pos} {tb : WX → TS} {Wo : WX}
set_option maxHeartbeats 4000000 in
theorem ps_try_mix (stk : X.stack = X.env :: X.outer) (frm : X.env.frame = some X.env.locals) (hN : X.N.Nodup) (tk : Takes X Wo)
    (hb : ∀ (W : WX) (pl : List (Addr × Obj)) (xx : Value → Shared → Prop), Takes (X.tr pl xx) W → PassesOwn (model X.prog X.w) X.A X.env xx → PSs (X.tr pl xx) bd (tb W))
    (hh : HdM X (hd0 :: hl) cl) : PS X (.Try bd (hd0 :: hl) [] [] tp) (fun D τ G => tb (wMix X.K X.N.length Wo D cl) D τ G) := by
  refine ⟨fun pins s τ G D J0 q0 => ?_⟩
  have okX := J0.ok
  have allF : X.A.frames = some (X.env :: X.outer) := by rw [okX.frames, stk]
  refine wpAny_Try_except ?_
  refine wpAny_mono ((hb (wMix X.K X.N.length Wo D cl) (X.pn ++ pins) (fun ev s1 => wpAny (model X.prog X.w) X.A (noteFrame ev X.env) (fun _ s2 => wpAny (model X.prog X.w) X.A (setFlight ev none) (fun _ s3 =>
    wpAny (model X.prog X.w) X.A (handleBy ev X.env (hd0 :: hl)) (SP X pins D) X.xe s3) X.xe s2) X.xe s1) (fun ev sv air => ?_) PassesOwn.looking).run [] s τ G D (J0.toTry _) q0) (fun fl s1 ended => ?_) (fun ev s1 z => z)
  · obtain ⟨p, B, sIn, pins', τ1, G1, k, dd, rfl, Jt, nB, upS, inSky, nG, sameOs, bareS, wish⟩ := air
    have J1 : Inv X pins τ1 G1 sIn := Jt.ofTry okX
    have inSky' : Sky B (X.env :: X.outer) p (Zc k dd) X.env.locals sv.heap := by rw [← stk]; exact inSky
    show wpAny (model X.prog X.w) X.A (noteFrame (.ref p) X.env) _ _ _
    refine Sky.land Zc.steady allF frm inSky' fun hp3 fly3 upL => ?_
    have J3 : Inv X pins τ1 G1 { sv with heap := hp3 } := J1.landed nB fly3.1 (upS.trans upL) sameOs bareS
    obtain ⟨ob3, fs3, at3, zc3, dt3⟩ := fly3.there
    have offF : p ∉ frs (X.env :: X.outer) := fun hm => by
      obtain ⟨_, o', e', nof⟩ := fly3.2.2.1.mem hm
      rw [at3] at e'
      cases e'
      exact nof _ dt3
    have offL : p ≠ X.env.locals := fun z => offF (List.mem_filterMap.mpr ⟨X.env, List.mem_cons_self, by rw [frm, z]⟩)
    have offFs : p ∉ X.fs := fun hm => by
      obtain ⟨en, men, q⟩ := List.mem_filterMap.mp hm
      exact offF (List.mem_filterMap.mpr ⟨en, List.mem_cons_of_mem _ men, q⟩)
    have Js := J3.suite at3 dt3 nG offL offFs
    have onward : ∀ {hl' : List ExceptHandler} {cl' : List Cls1}, HdM X hl' cl' → wMix X.K X.N.length Wo D cl' k dd τ1 G1 →
        wpAny (model X.prog X.w) X.A (handleBy (.ref p) X.env hl') (SP X pins D) X.xe { sv with heap := hp3 } := by
      have tested : ∀ {x : Str} {cv : Value} {q1 : Pos} {Q : Value → Shared → Prop} {E : Value → Shared → Prop}, Names X x cv → Q cv { sv with heap := hp3 } → wpAny (model X.prog X.w) (X.A.mark (some (.ref p))) (eval (.Name x q1) X.env) Q E { sv with heap := hp3 } := fun {x cv q1 Q E} nms q => by
        obtain ⟨isG, notD, there | ⟨nowhere, boot, notN⟩⟩ := nms
        · exact ld_glob (X := X.suite p ((p, ob3) :: (X.pn ++ pins))) Js isG there q notD
        · exact ld_blt (X := X.suite p ((p, ob3) :: (X.pn ++ pins))) Js isG nowhere boot q notN notD
      have lookT : PySem.W.Looks (model X.prog X.w) hp3 (typeOf (.ref p)) k := fun A Q E s kk q => wpAny_typeOf_ref (kk _ _ at3) (by rw [zc3.1]; exact q)
      intro hl' cl' hk
      induction hk with
      | nil =>
        intro wsh
        refine wpAny_handleBy_nil ?_
        obtain ⟨_, _, _, ob, fs, T, oT, ts', e1, e2, e3, e4, _⟩ := id fly3
        unfold PySem.passOn
        refine wpAny_bind (wpAny_field e1 e3 e4 ?_)
        rw [if_neg (show ¬ ((Value.ref T == Value.none) = true) from by simp)]
        have last : wpAny (model X.prog X.w) X.A (setFlight (.ref p) X.env.frame) (fun _ sz => wpAny (model X.prog X.w) X.A (throw (.ref p) : Sem Flow) (SP X pins D) X.xe sz) X.xe { sv with heap := hp3 } := by
          rw [frm]
          refine HandSPX.setFlight_upZ fly3 fun hp4 held4 up4 => wpAny_throw (tk _ _ ?_)
          exact ⟨p, B, sIn, pins, τ1, G1, k, dd, rfl, J1, nB, (upS.trans upL).trans up4, .inr (.inr (by rw [stk]; exact held4)), nG, sameOs, bareS, wsh⟩
        first
          | exact wpAny_bind (wpAny_pure (wpAny_bind last))
          | exact wpAny_bind last
      | @plain x cv ts s0 ss q1 q2 hl2 cl2 nms run more ih =>
        intro wsh
        obtain ⟨hit, h1, yes, no⟩ := wsh
        refine wpAny_handleBy_cons (codeAny_handlers_test ?_) (by intro z; cases z)
        refine tested nms ((PySem.W.exm_one (M := model X.prog X.w) (J3.kIn) lookT h1).here ?_)
        cases hit with
        | false => exact ih (no rfl)
        | true =>
          refine codeAny_handlers_suite ?_
          refine HandSPX.lands_againZ fly3 fun hp4 fly4 up4 => ?_
          have J4 : Inv X pins τ1 G1 { sv with heap := hp4 } := J1.landed nB fly4.1 ((upS.trans upL).trans up4) sameOs bareS
          obtain ⟨ob4, fs4, at4, zc4, dt4⟩ := fly4.there
          refine wpAny_mono ((run p ob4 k dd (X.pn ++ pins) zc4 ⟨_, dt4⟩).run [] _ _ G1 _ (J4.suite at4 dt4 nG offL offFs) (yes rfl J1.len p nG)) (fun fl sz q => ?_) (fun _ _ z => z.elim)
          cases fl with
          | ret u =>
            obtain ⟨v6, τ6, G6, J6, r6, q6⟩ := q
            exact ⟨_, _, _, J6.unsuite okX, r6, q6⟩
          | next =>
            obtain ⟨τ6, G6, J6, q6⟩ := q
            exact ⟨_, _, J6.unsuite okX, q6⟩
          | brk =>
            obtain ⟨τ6, G6, J6, q6⟩ := q
            exact ⟨_, _, J6.unsuite okX, q6⟩
          | cont =>
            obtain ⟨τ6, G6, J6, q6⟩ := q
            exact ⟨_, _, J6.unsuite okX, q6⟩
      | @named x n i cv ts s0 ss q1 q2 hl2 cl2 nms slot isL run more ih =>
        intro wsh
        obtain ⟨hit, h1, yes, no⟩ := wsh
        refine wpAny_handleBy_cons (codeAny_handlers_test ?_) (by intro z; cases z)
        refine tested nms ((PySem.W.exm_one (M := model X.prog X.w) (J3.kIn) lookT h1).here ?_)
        cases hit with
        | false => exact ih (no rfl)
        | true =>
          refine codeAny_handlers_suite_as ?_
          refine HandSPX.lands_againZ fly3 fun hp4 fly4 up4 => ?_
          have J4 : Inv X pins τ1 G1 { sv with heap := hp4 } := J1.landed nB fly4.1 ((upS.trans upL).trans up4) sameOs bareS
          obtain ⟨ob4, fs4, at4, zc4, dt4⟩ := fly4.there
          refine store_ok (X := X.suite p ((p, ob4) :: (X.pn ++ pins))) (v := .ref p) (J4.suite at4 dt4 nG offL offFs) hN slot (.inl isL) rfl (fun s5 J5 => ?_) (.inr isL)
          refine wpAny_mono ((run p ob4 k dd (X.pn ++ pins) zc4 ⟨_, dt4⟩).run [] s5 _ G1 _ J5 (yes rfl J1.len p nG)) (fun fl sz q => ?_) (fun _ _ z => z.elim)
          have goes : ∀ {τ6 : L2.St} {G6 : Hp} {Q : Shared → Prop}, Inv (X.suite p ((p, ob4) :: (X.pn ++ pins))) [] τ6 G6 sz → (∀ s7, Inv X pins (τ6.set i none) G6 s7 → Q s7) →
              wpAny (model X.prog X.w) X.A (do bindName X.env n .none; unbindBehindTheSuite X.env n q2) (fun _ s7 => Q s7) X.xe sz := fun {τ6 G6 Q} J6 hq => gone_ok (J6.unsuite okX) hN slot isL hq
          cases fl with
          | ret u =>
            obtain ⟨v6, τ6, G6, J6, r6, q6⟩ := q
            exact goes J6 fun s7 J7 => ⟨_, _, _, J7, r6, q6⟩
          | next =>
            obtain ⟨τ6, G6, J6, q6⟩ := q
            exact goes J6 fun s7 J7 => ⟨_, _, J7, q6⟩
          | brk =>
            obtain ⟨τ6, G6, J6, q6⟩ := q
            exact goes J6 fun s7 J7 => ⟨_, _, J7, q6⟩
          | cont =>
            obtain ⟨τ6, G6, J6, q6⟩ := q
            exact goes J6 fun s7 J7 => ⟨_, _, J7, q6⟩
    exact onward hh wish
  · cases fl with
    | ret u =>
      obtain ⟨v, τ1, G1, J1, r, q⟩ := ended
      exact ⟨v, τ1, G1, J1.ofTry okX, r, q⟩
    | next =>
      obtain ⟨τ1, G1, J1, q⟩ := ended
      exact wpAny_execs_nil ⟨τ1, G1, J1.ofTry okX, q⟩
    | brk =>
      obtain ⟨τ1, G1, J1, q⟩ := ended
      exact ⟨τ1, G1, J1.ofTry okX, q⟩
    | cont =>
      obtain ⟨τ1, G1, J1, q⟩ := ended
      exact ⟨τ1, G1, J1.ofTry okX, q⟩
end
end Pd

/-! Pd32: X(e, e) raised, over data; raised(lambda: ..), a def that tells which error came and what it keeps. -/
namespace Pd
open PySem PySem.Spec PyProof.Rows L2
section
variable {X : Cx} {W : WX} {Z : Ext} {CL : Calls} {ow0 : List Addr} {Hb : Hp}
def wRaise2 (x a b : Str) (w : WA) : WS := fun E ρ => w ρ (fun ys => match keeps ys with
  | some [d1, d2] => E.ex ⟨x, [(a, d1), (b, d2)]⟩ ρ
  | _ => False) (fun y => E.ex y ρ)
/-- a class whose exceptions keep two arguments -/
structure XCls2 (P : Program) (K : PySem.W.Frag) (mg : Str → Option Value) (x a b : Str) : Prop where
  ex : ∃ st C, Ini2 P K mg st x a b C ∧ IniT P st a b
theorem sim_raise2 {x a b : Str} {p pos pos' : Pos} {e1 e2 : Expr} {w : WA} (hc : X.calm = true) (tk : Takes X W) (hx : XCls2 X.prog X.K X.mg x a b) (hr : Room 2 X.A) (hg : Gl X x) (h : SimA X W Z CL ow0 Hb [e1, e2] w) (hdb : (x == ("__debug__" : Str)) = false := by decide)
    (he : starEach [e1, e2] X.env = (false, eval e1 X.env) :: starEach [e2] X.env := by rfl) (hpl : (backTo pos (starEach [e2] X.env)).any (·.1) = false := by rfl) :
    SimS X W Z CL ow0 Hb (.Raise (some (.Call (.Name x p) [e1, e2] [] pos)) none pos') (wRaise2 x a b w) := by
  intro S ρ σ H ow E D r w o
  obtain ⟨st, C, T, TT⟩ := hx.ex
  refine PSat.of (ps_raise hc tk (pmk_ini2 T TT hr hg PAat.pa hdb he hpl)) ?_
  refine h S ρ σ H ow _ (fun y => E.ex y ρ) _ r w (fun ys vs H1 p1 e1 z1 h1 => ?_) (o.bd r)
  split at p1
  · rename_i d1 d2 ed
    have ha := h1.keeps ed
    obtain ⟨v1, v2, rfl⟩ : ∃ v1 v2, vs = [v1, v2] := by
      cases ha with
      | cons a r => cases r with
        | cons b r => cases r with
          | nil => exact ⟨_, _, rfl⟩
    refine ⟨v1, v2, rfl, fun d nd => ?_⟩
    have s2 : SameBut (fp Z) H1 (upd H1 d (.xd [(a, v1), (b, v2)])) := .new nd
    refine o.ex _ ρ σ _ ow _ _ p1 ((r.step e1 z1).step s2 (z1.le (Le.new nd))) ⟨⟨C, T.glob, rfl⟩, fun _ => ⟨d, _, rfl, upd_same, rfl, ?_⟩⟩
    exact DtAll.mono (hid_mono s2 r.gr.fpo fun _ m => .inl m) ha
  · exact p1.elim
end

/-! ### the clauses that tell -/
/-- what is wished of an exception by clauses that hand back (word, field, field) -/
def wCatch (K : PySem.W.Frag) (Q : VK) : List (Addr × Str × List Str) → XK
  | [] => fun _ _ _ => False
  | (CS, wd, fs) :: r => fun cls d H => ∃ b, PySem.W.exmOne K cls (.ref CS) = some b ∧
    (b = true → ∃ vs : List V, vs.length ≤ 4 ∧ (fs = [] → vs = []) ∧ (fs ≠ [] → ∃ dd kvs, cls = .ref CS ∧ d = some dd ∧ H dd = some (.xd kvs) ∧ fs.map (fun f => kvs.lookup f) = vs.map some) ∧ ∀ p, H p = none → Q (.ref p) (upd H p (.tup (.str wd :: vs)))) ∧ (b = false → wCatch K Q r cls d H)
structure CatchOk (X : Cx) (hl : List ExceptHandler) (cs : List (Addr × Str × List Str)) : Prop where
  ok : ∃ cl, HdM X hl cl ∧ ∀ (D : L2.Ends) (Q : VK) (k : Value) (dd : Option Addr) (τ : L2.St) (G : Hp), (∀ v H', Q v H' → D.rt v H') → wCatch X.K Q cs k dd G → wMix X.K X.N.length (fun _ _ _ _ => False) D cl k dd τ G
section
variable {X : Cx} {hl : List ExceptHandler} {cs : List (Addr × Str × List Str)}
theorem CatchOk.nil : CatchOk X [] [] := ⟨[], .nil, fun _ _ _ _ _ _ _ h => h⟩
theorem CatchOk.plain {x wd : Str} {CS : Addr} {q1 p5 p6 p7 p11 : Pos} {j k2} (nm : Names X x (.ref CS)) (r : CatchOk X hl cs) :
    CatchOk X (.ExceptHandler (some (.Name x q1)) none [.Return (some (.Tuple [.Constant (.str wd) j p5] k2 p11)) p6] p7 :: hl) ((CS, wd, []) :: cs) := by
  obtain ⟨cl, h, hw⟩ := r.ok
  refine ⟨_, .plain nm (fun p ob k dd pl _ _ => pss_one (ps_ret (pe_tup (pa_cons pe_str pa_nil)))) h, fun D Q k dd τ G hD w => ?_⟩
  obtain ⟨b, e, yes, no⟩ := w
  refine ⟨b, e, fun hb _ p np => ?_, fun hb => hw D Q k dd τ G hD (no hb)⟩
  obtain ⟨vs, _, e0, _, hq⟩ := yes hb
  obtain rfl := e0 rfl
  exact ⟨by show 1 ≤ sizeLine; rw [sizeLine_eq]; decide, fun q hq' => hD _ _ (hq q hq')⟩
theorem CatchOk.two {x n wd f1 f2 : Str} {i : Nat} {CS : Addr} {q1 p5 p6 p7 p8 p9 p10 p11 p12 : Pos} {j k2} (nm : Names X x (.ref CS)) (slot : X.N[i]? = some n) (loc : X.env.kindOf n = some .local) (vis : Vis X.env.scope n) (F : XfC X.K CS) (no1 : PySem.W.findIn X.K (.ref CS) f1 = some none) (no2 : PySem.W.findIn X.K (.ref CS) f2 = some none) (r : CatchOk X hl cs)
    (b1 : attributeBase (.Name n p8) f1 X.env (eval (.Name n p8) X.env) = eval (.Name n p8) X.env := by rfl) (b2 : attributeBase (.Name n p10) f2 X.env (eval (.Name n p10) X.env) = eval (.Name n p10) X.env := by rfl)
    (hd : (n == ("__debug__" : Str)) = false := by decide) (hcd : (n == ("__classdict__" : Str)) = false := by decide) :
    CatchOk X (.ExceptHandler (some (.Name x q1)) (some n) [.Return (some (.Tuple [.Constant (.str wd) j p5, .Attribute (.Name n p8) f1 p9, .Attribute (.Name n p10) f2 p12] k2 p11)) p6] p7 :: hl) ((CS, wd, [f1, f2]) :: cs) := by
  obtain ⟨cl, h, hw⟩ := r.ok
  refine ⟨_, .named nm slot loc (fun p ob k dd pl hz hf => pss_one (ps_ret (pe_tup (pa_cons pe_str (pa_cons (pe_xf F no1 hz hf (pe_var (i := i) slot vis hd hcd) b1) (pa_cons (pe_xf F no2 hz hf (pe_var (i := i) slot vis hd hcd) b2) pa_nil)))))) h, fun D Q k dd τ G hD w => ?_⟩
  obtain ⟨b, e, yes, no⟩ := w
  refine ⟨b, e, fun hb hlen p np => ?_, fun hb => hw D Q k dd τ G hD (no hb)⟩
  obtain ⟨vs, _, _, e1, hq⟩ := yes hb
  obtain ⟨d, kvs, rfl, rfl, hd, hm⟩ := e1 (by simp)
  obtain ⟨v1, v2, rfl, l1, l2⟩ : ∃ v1 v2, vs = [v1, v2] ∧ kvs.lookup f1 = some v1 ∧ kvs.lookup f2 = some v2 := by
    have hl := congrArg List.length hm
    simp only [List.length_map, List.length_cons, List.length_nil] at hl
    obtain ⟨v1, v2, rfl⟩ : ∃ v1 v2, vs = [v1, v2] := by
      cases vs with
      | nil => simp at hl
      | cons v1 r => cases r with
        | nil => simp at hl
        | cons v2 r => cases r with
          | nil => exact ⟨v1, v2, rfl⟩
          | cons _ _ => simp at hl
    simp only [List.map_cons, List.map_nil, List.cons.injEq, and_true] at hm
    exact ⟨v1, v2, rfl, hm.1, hm.2⟩
  have hi : i < τ.length := by
    rw [hlen]
    exact (List.getElem?_eq_some_iff.mp slot).1
  have at1 : (atName τ p (some i))[i]? = some (some (.ref p)) := List.getElem?_set_self hi
  exact ⟨.ref p, at1, rfl, rfl, d, kvs, v1, rfl, hd, l1, .ref p, at1, rfl, rfl, d, kvs, v2, rfl, hd, l2, by show 3 ≤ sizeLine; rw [sizeLine_eq]; decide, fun q hq' => hD _ _ (hq q hq')⟩
theorem CatchOk.one {x n wd f1 : Str} {i : Nat} {CS : Addr} {q1 p5 p6 p7 p8 p9 p11 : Pos} {j k2} (nm : Names X x (.ref CS)) (slot : X.N[i]? = some n) (loc : X.env.kindOf n = some .local) (vis : Vis X.env.scope n) (F : XfC X.K CS) (no1 : PySem.W.findIn X.K (.ref CS) f1 = some none) (r : CatchOk X hl cs)
    (b1 : attributeBase (.Name n p8) f1 X.env (eval (.Name n p8) X.env) = eval (.Name n p8) X.env := by rfl)
    (hd : (n == ("__debug__" : Str)) = false := by decide) (hcd : (n == ("__classdict__" : Str)) = false := by decide) :
    CatchOk X (.ExceptHandler (some (.Name x q1)) (some n) [.Return (some (.Tuple [.Constant (.str wd) j p5, .Attribute (.Name n p8) f1 p9] k2 p11)) p6] p7 :: hl) ((CS, wd, [f1]) :: cs) := by
  obtain ⟨cl, h, hw⟩ := r.ok
  refine ⟨_, .named nm slot loc (fun p ob k dd pl hz hf => pss_one (ps_ret (pe_tup (pa_cons pe_str (pa_cons (pe_xf F no1 hz hf (pe_var (i := i) slot vis hd hcd) b1) pa_nil))))) h, fun D Q k dd τ G hD w => ?_⟩
  obtain ⟨b, e, yes, no⟩ := w
  refine ⟨b, e, fun hb hlen p np => ?_, fun hb => hw D Q k dd τ G hD (no hb)⟩
  obtain ⟨vs, _, _, e1, hq⟩ := yes hb
  obtain ⟨d, kvs, rfl, rfl, hd, hm⟩ := e1 (by simp)
  obtain ⟨v1, rfl, l1⟩ : ∃ v1, vs = [v1] ∧ kvs.lookup f1 = some v1 := by
    have hl := congrArg List.length hm
    simp only [List.length_map, List.length_cons, List.length_nil] at hl
    obtain ⟨v1, rfl⟩ : ∃ v1, vs = [v1] := by
      cases vs with
      | nil => simp at hl
      | cons v1 r => cases r with
        | nil => exact ⟨v1, rfl⟩
        | cons _ _ => simp at hl
    simp only [List.map_cons, List.map_nil, List.cons.injEq, and_true] at hm
    exact ⟨v1, rfl, hm⟩
  have hi : i < τ.length := by
    rw [hlen]
    exact (List.getElem?_eq_some_iff.mp slot).1
  have at1 : (atName τ p (some i))[i]? = some (some (.ref p)) := List.getElem?_set_self hi
  exact ⟨.ref p, at1, rfl, rfl, d, kvs, v1, rfl, hd, l1, by show 2 ≤ sizeLine; rw [sizeLine_eq]; decide, fun q hq' => hD _ _ (hq q hq')⟩
end
/-- try: return (told, act()), clauses that tell -/
def TCatch (K : PySem.W.Frag) (cs : List (Addr × Str × List Str)) (told : Str) : (XK → Hp → VK → Prop) → Hp → VK → Prop := fun tl H Q =>
  tl (wCatch K Q cs) H fun v H' => [V.str told, v].length ≤ sizeLine ∧ ∀ p, H' p = none → Q (.ref p) (upd H' p (.tup [.str told, v]))
theorem catch_gives {X : Cx} {Ng : List Str} {x a q told : Str} {sg : Scope} {g : Addr} {cdg : Value} {j k1 : Nat} {p1 p2 p3 p8 p9 p10 : Pos} {h0 : ExceptHandler} {hl : List ExceptHandler} {cs : List (Addr × Str × List Str)} (hN : Ng.Nodup)
    (hcs : ∀ (s : Shared) (H : Hp), CatchOk (cxOf C8.CX0 X.prog X.w X.K X.mg X.base Ng x sg g cdg X.A X.stack s H C8.E0).nox (h0 :: hl) cs) (s0 : ∀ f : Addr, (L2.start Ng [V.ref f])[0]? = some (some (V.ref f))) :
    LamX.GivesTo X Ng x sg g cdg [.Try [.Return (some (.Tuple [.Constant (.str told) j p9, .Call (.Name a p1) [] [] p2] k1 p10)) p3] (h0 :: hl) [] [] p8] a q (TCatch X.K cs told) := by
  intro f c' s H Q tl act hc hyp
  obtain ⟨cl, hM, hw⟩ := (hcs s H).ok
  refine ⟨_, pss_one (ps_try_mix (X := (cxOf C8.CX0 X.prog X.w X.K X.mg X.base Ng x sg g cdg X.A X.stack s H C8.E0).nox) (Wo := fun _ _ _ _ => False)
      (tb := fun W D σ H => ∃ Ech : XK, (∀ cls d σ' H', Ech cls d H' → W cls d σ' H') ∧ σ[0]? = some (some (.ref f)) ∧ H c' = some (LamX.CodeO c' q) ∧ tl Ech H fun v H' => [V.str told, v].length ≤ sizeLine ∧ ∀ p, H' p = none → D.rt (.ref p) (upd H' p (.tup [.str told, v])))
      rfl rfl hN LamX.takes0 (fun W pn xe tk _ => ?_) hM), ?_⟩
  · refine ⟨fun pins s' σ H' D I ⟨Ech, hW, at0, code, run⟩ => ?_⟩
    exact (pss_one (ps_ret (pos := p3) (pe_tup (pa_cons pe_str (pa_cons (act W pn xe Ech p1 p2 tk hW) pa_nil))))).run pins s' σ H' D I ⟨at0, code, run⟩
  · exact ⟨wCatch X.K Q cs, fun cls d σ' H' w => hw _ Q cls d σ' H' (fun v H' h => h) w, s0 f, hc, hyp⟩

/-- what the clauses hand back of an exception; cs: class, word, fields -/
abbrev Clz := List (Str × Str × List Str)
def lookAll (args : List (Str × D)) : List Str → Option (List D)
  | [] => some []
  | f :: fs => match args.lookup f, lookAll args fs with
    | some d, some ds => some (d :: ds)
    | _, _ => none
def tells (x : Xn) : Clz → Option D
  | [] => none
  | (c, wd, fs) :: r => if x.cls = c then (lookAll x.args fs).map fun ds => .tuple (.str wd :: ds) else tells x r
def wRaised (told : Str) (cs : Clz) (we : WE) : WE := fun ρ P _ => we ρ (fun y => match y.kp with
  | some d => P (.d (.tuple [.str told, d]))
  | none => False) fun x => match tells x cs with
    | some d => P (.d d)
    | none => False
/-- the clauses' classes stand, and tell their exceptions apart -/
def Apart (K : PySem.W.Frag) (mg : Str → Option Value) (xs : List Str) : Clz → List (Addr × Str × List Str) → Prop
  | [], [] => True
  | (c, wd, fs) :: r, (CS, wd', fs') :: r' => wd' = wd ∧ fs' = fs ∧ fs.length ≤ 4 ∧ mg c = some (.ref CS) ∧ (∀ e ∈ xs, ∀ C, mg e = some (.ref C) → PySem.W.exmOne K (.ref C) (.ref CS) = some (decide (e = c))) ∧ Apart K mg xs r r'
  | _, _ => False
theorem lookAll_ok {K : PySem.W.Frag} {H : Hp} {args : List (Str × D)} {kvs : List (Str × V)} (hn : kvs.map (·.1) = args.map (·.1)) (ha : DtAll K H (kvs.map (·.2)) (args.map (·.2))) :
    ∀ {fs : List Str} {ds : List D}, lookAll args fs = some ds → ∃ vs, fs.map (fun f => kvs.lookup f) = vs.map some ∧ DtAll K H vs ds
  | [], ds, e => by cases e; exact ⟨[], rfl, .nil⟩
  | f :: fs, ds, e => by
    unfold lookAll at e
    cases e1 : args.lookup f with
    | none => rw [e1] at e; cases e
    | some d =>
      cases e2 : lookAll args fs with
      | none => rw [e1, e2] at e; cases e
      | some ds' =>
        rw [e1, e2] at e
        cases e
        obtain ⟨vs, h1, h2⟩ := lookAll_ok hn ha e2
        have one : ∀ {args : List (Str × D)} {kvs : List (Str × V)}, kvs.map (·.1) = args.map (·.1) → DtAll K H (kvs.map (·.2)) (args.map (·.2)) → args.lookup f = some d → ∃ v, kvs.lookup f = some v ∧ Dt K H v d := by
          intro args
          induction args with
          | nil => intro kvs _ _ z; cases z
          | cons p r ih =>
            intro kvs hn ha z
            cases kvs with
            | nil => cases hn
            | cons q s =>
              obtain ⟨qn, qv⟩ := q
              obtain ⟨pn, pd⟩ := p
              simp only [List.map_cons, List.cons.injEq] at hn
              obtain ⟨rfl, hn⟩ := hn
              simp only [List.map_cons] at ha
              cases ha with
              | cons hv hr =>
                by_cases e : f = qn
                · subst e
                  simp only [List.lookup, beq_self_eq_true] at z ⊢
                  cases z
                  exact ⟨_, rfl, hv⟩
                · have e' : (f == qn) = false := by simpa using e
                  simp only [List.lookup, e'] at z ⊢
                  exact ih hn hr z
        obtain ⟨v, g1, g2⟩ := one hn ha e1
        exact ⟨v :: vs, by simp [g1, h1], .cons g2 h2⟩
theorem lookAll_len {args : List (Str × D)} : ∀ {fs : List Str} {ds : List D}, lookAll args fs = some ds → ds.length = fs.length
  | [], ds, e => by cases e; rfl
  | f :: fs, ds, e => by
    unfold lookAll at e
    cases e1 : args.lookup f with
    | none => rw [e1] at e; cases e
    | some d =>
      cases e2 : lookAll args fs with
      | none => rw [e1, e2] at e; cases e
      | some ds' =>
        rw [e1, e2] at e
        cases e
        simp [lookAll_len e2]
section
variable {X : Cx} {W : WX} {Z : Ext} {CL : Calls} {ow0 : List Addr} {Hb : Hp}
theorem wCatch_of {xs : List Str} {x : Xn} {Q : VK} {cls : Value} {d : Option Addr} {ow : List Addr} {H : Hp} {dt : D} (hx : x.cls ∈ xs) (er : ExR X.K ow X.mg x cls d H)
    (hq : ∀ vs ds, DtAll X.K (hid ow H) vs ds → dt = .tuple ds → ∀ p, H p = none → Q (.ref p) (upd H p (.tup vs))) :
    ∀ {cs : Clz} {hs : List (Addr × Str × List Str)}, Apart X.K X.mg xs cs hs → tells x cs = some dt → wCatch X.K Q hs cls d H
  | [], _, _, e => by cases e
  | (c, wd, fs) :: r, (CS, wd', fs') :: r', ⟨e1, e2, hl, hc, ap, more⟩, e => by
    subst e1
    subst e2
    obtain ⟨⟨C, hC, rfl⟩, args⟩ := er
    refine ⟨_, ap x.cls hx C hC, fun hb => ?_, fun hb => ?_⟩
    · have hcls : x.cls = c := of_decide_eq_true hb
      unfold tells at e
      rw [if_pos hcls] at e
      obtain ⟨ds, l1, l2⟩ := Option.map_eq_some_iff.mp e
      rw [hcls, hc] at hC
      obtain rfl : CS = C := Value.ref.inj (Option.some.inj hC)
      cases fs' with
      | nil =>
        cases l1
        exact ⟨[], by decide, fun _ => rfl, fun z => (z rfl).elim, hq _ _ (.cons (.str wd') .nil) l2.symm⟩
      | cons f fs =>
        have ne : x.args ≠ [] := by
          intro z
          unfold lookAll at l1
          rw [z] at l1
          cases l1
        obtain ⟨dx, kvs, rfl, h1, h2, h3⟩ := args ne
        obtain ⟨vs, g1, g2⟩ := lookAll_ok h2 h3 l1
        exact ⟨vs, by have := g2.length; rw [this, lookAll_len l1]; exact hl, (fun z => by cases z), fun _ => ⟨dx, kvs, rfl, rfl, h1, g1⟩, hq _ _ (.cons (.str wd') g2) l2.symm⟩
    · have hcls : ¬ x.cls = c := of_decide_eq_false hb
      unfold tells at e
      rw [if_neg hcls] at e
      exact wCatch_of hx ⟨⟨C, hC, rfl⟩, args⟩ hq more e
theorem sim_raised {x a told : Str} {g c P : Addr} {k : Nat} {st : Stmt} {fd : FuncData} {Ng : List Str} {xs : List Str} {cs : Clz} {hs : List (Addr × Str × List Str)} {params : Arguments} {body : Expr} {scope : Scope} {we : WE} {p lpos pos : Pos} (F : Fun X.K x x st g fd) (hg : Gl X x) (hm : X.mg x = some (.ref g)) (hb : L2.Binds X.K fd [a] []) (SG : FnScope Ng [a] (defScope st)) (hNg : Ng[0]? = some a) (hva : Vis (defScope st) a)
    (hG : ∀ (cdg : Value) (q : Str), LamX.GivesTo X Ng x (defScope st) g cdg (defBody st) a q (TCatch X.K hs told)) (hap : Apart X.K X.mg xs cs hs) (hcl : ∀ c wd fs, (c, wd, fs) ∈ cs → c ∈ xs)
    (TB : LamX.TabB X.base X.mg c P) (hcode : X.env.code = .ref c) (hmT : (P, X.env.qual ++ "<lambda>") ∈ Z.tabs) (hu : ∀ p ∈ Z.tabs, p.1 = P → p.2 = X.env.qual ++ "<lambda>") (hr : Room (k + 2) X.A) (L : LamX.LamS X.env.scope scope) (hdef : defaultsOf params X.env = ([], []))
    (hbind : ∀ (q : Str) (cl : List (Str × Addr)) (pm cv ctv : Value), bindArgs (PySem.W.kla_fn "<lambda>" q params body scope cl pm cv ctv) ⟨[], []⟩ = pure [])
    (hbody : InLam X scope k fun Y E => SimE Y (fun cls d _ H' => E cls d H') Z CL ow0 Hb body we)
    (hdb : (x == ("__debug__" : Str)) = false := by decide) (hd : (a == ("__debug__" : Str)) = false := by decide) (hcd : (a == ("__classdict__" : Str)) = false := by decide) :
    SimE X W Z CL ow0 Hb (.Call (.Name x p) [.Lambda params body scope lpos] [] pos) (wRaised told cs we) := by
  intro S ρ σ H ow R Ex Q r w gd bd
  obtain ⟨oc, od, kV, doc, pm, an, cdv, ct, osl, rfl, lk, hcd'⟩ := F.ex
  refine PEat.of (LamX.pe_lamcall (t := fun E σ H Q => InLam X scope k fun Y E' => E' = E → PEat Y body σ H Q) hg hm F.kp lk hcd' hb SG hNg hva (hG cdv _) TB hcode hmT hu hr L hdef hbind (fun A outer s H E f c' hr' => ⟨fun pins s' σ H Q I h => (h A outer s _ E f c' hr' rfl).go pins s' I⟩) hdb hd hcd) ?_
  refine ⟨r.gr.ext.tabs, fun H1 eN T1 => ?_⟩
  have e1 : SameBut (fp Z) H H1 := extN_same eN
  have z1 : RZ Z H1 := r.gr.ext.extN eN T1
  have r1 := r.step e1 z1
  have g1 := gd.step e1 r.gr.fpo
  intro A outer s0 H0 E f c' hr' hE
  subst hE
  refine hbody A outer s0 H0 _ f c' hr' S ρ σ H1 ow _ _ _ r1 w (fun y v H2 p2 e2 z2 h2 => ?_) (fun ex cls d H2 p2 er e2 z2 => ?_)
  · split at p2
    · rename_i d ed
      exact ⟨by show 2 ≤ sizeLine; rw [sizeLine_eq]; omega, fun q hq => (g1.step e2 r.gr.fpo).tup p2 (r1.gr.step e2 z2) hq (.cons (.str _) (.cons (h2.kp ed) .nil))⟩
    · exact p2.elim
  · split at p2
    · rename_i dt et
      have hx : ex.cls ∈ xs := by
        have go : ∀ {l : Clz}, (∀ c wd fs, (c, wd, fs) ∈ l → c ∈ xs) → tells ex l = some dt → ex.cls ∈ xs := by
          intro l
          induction l with
          | nil => intro _ z; cases z
          | cons h t ih =>
            intro hl z
            obtain ⟨c, wd, fs⟩ := h
            unfold tells at z
            by_cases e : ex.cls = c
            · rw [e]; exact hl c wd fs List.mem_cons_self
            · rw [if_neg e] at z
              exact ih (fun c wd fs m => hl c wd fs (List.mem_cons_of_mem _ m)) z
        exact go hcl et
      exact wCatch_of hx er (fun vs ds ha e q hq => by subst e; exact (g1.step e2 r.gr.fpo).tup p2 (r1.gr.step e2 z2) hq ha) hap et
    · exact p2.elim
end
end Pd

/-! Pd33: x[::-1] of tuples and lists. -/
namespace Pd
open PySem PySem.Spec PyProof.Rows L2
section
variable {prog : Program} {w : World} {A : Around} {E : Value → Shared → Prop} {s : Shared}
theorem back_adjust (n : Nat) : Builtin.Slice.sliceAdjust none none (-1) (n : Int) = ((n : Int) - 1, -1) := by
  unfold Builtin.Slice.sliceAdjust
  simp
theorem back_places (n : Nat) : Builtin.Slice.slicePlaces ((n : Int) - 1) (-1) (-1) = n := by
  unfold Builtin.Slice.slicePlaces
  have neg1 : ¬ ((-1 : Int) > 0) := by decide
  simp only [neg1, if_false]
  by_cases h : (n : Int) - 1 > -1
  · rw [if_pos h]
    have e : ((n : Int) - 1 - -1 - 1) / (- -1) = (n : Int) - 1 := by
      rw [show (- -1 : Int) = 1 by decide, Int.ediv_one]; omega
    rw [e]; omega
  · rw [if_neg h]; omega
theorem back_pick (xs : Array Value) : ((List.range xs.size).filterMap fun (m : Nat) => xs[(((xs.size : Nat) : Int) - 1 + (m : Int) * (-1)).toNat]?).toArray = xs.toList.reverse.toArray := by
  have e : ∀ m ∈ List.range xs.size, xs[(((xs.size : Nat) : Int) - 1 + (m : Int) * (-1)).toNat]? = xs[xs.size - 1 - m]? := by
    intro m hm
    have := List.mem_range.mp hm
    have h : (((xs.size : Nat) : Int) - 1 + (m : Int) * (-1)).toNat = xs.size - 1 - m := by omega
    rw [h]
  have e1 : (List.range xs.size).filterMap (fun (m : Nat) => xs[(((xs.size : Nat) : Int) - 1 + (m : Int) * (-1)).toNat]?) = (List.range xs.size).filterMap (fun m => xs[xs.size - 1 - m]?) := by
    generalize List.range xs.size = l at e
    induction l with
    | nil => rfl
    | cons a r ih => rw [List.filterMap_cons, List.filterMap_cons, e a List.mem_cons_self, ih fun m hm => e m (List.mem_cons_of_mem _ hm)]
  rw [e1]
  have e2 : (List.range xs.size).filterMap (fun m => xs[xs.size - 1 - m]?) = ((List.range xs.size).map (fun k => xs.size - 1 - k)).filterMap (xs[·]?) := by rw [List.filterMap_map]; rfl
  rw [e2, PySem.W.krv_range, List.filterMap_reverse, PySem.W.krv_all]
theorem back_tuple {t sl : Addr} {items : Array Value} {vl vu vs : Value} {Q : Value → Shared → Prop} (ht : IsTup s.heap t items) (hs : s.heap.IsSliceOf sl vl vu vs) (pl : IsPart vl none) (pu : IsPart vu none) (pv : IsPart vs (some (-1)))
    (hq : Q (.ref s.heap.objs.size) { s with heap := s.heap.push { cls := .type "tuple", data := .seq items.toList.reverse.toArray } }) (hsz : items.size ≤ sizeLine) : wpAny (model prog w) A (getItem (.ref t) (.ref sl)) Q E s := by
  have hlim : sizeOk (.seq items.toList.reverse.toArray) := by
    show items.toList.reverse.toArray.size ≤ sizeLine
    rw [List.size_toArray, List.length_reverse, Array.length_toList]
    exact hsz
  obtain ⟨so, hos, hcs, hds⟩ := id hs
  have isS : s.TypeIs (.ref sl) "slice" := ⟨so, hos, hcs⟩
  unfold getItem
  (try with_reducible refine wpAny_holding ?_); (first | refine wpAny_bind (wpAny_pure ?_) | skip)
  refine wpAny_bind (wpAny_sequenceKey ht.typeIs (by decide) ?_)
  refine wpAny_bind (wpAny_callSpecial?_slot (name := Str.ofString "__getitem__") ht.typeIs PyProof.Rows.slot_tuple_getitem (wpAny_call_entry PyProof.Rows.slot_tuple_getitem ht.typeIs entry_tuple_getitem ?_ (args_tuple_getitem _ _)))
  show wpAny _ _ (Builtin.Tuple.tupleItemsOf (.ref t) >>= _) _ _ s
  refine wpAny_bind (PyProof.Rows.tupleItemsOf_ ht (wpAny_bind (wpAny_typeOf isS ?_)))
  rw [if_pos (by decide)]
  have ap : ∀ {Q' : Int × Int × Nat → Shared → Prop} {A' : Around} {E' : Value → Shared → Prop}, Q' (((items.size : Nat) : Int) - 1, -1, items.size) s → wpAny (model prog w) A' (Builtin.Slice.sliceApplied (.ref sl) (pure ((items.size : Nat) : Int))) Q' E' s := by
    intro Q' A' E' q
    unfold Builtin.Slice.sliceApplied Builtin.Slice.sliceFields
    refine wpAny_bind (wpAny_bind (wpAny_field hos hds (x := vl) rfl (wpAny_bind (wpAny_field hos hds (x := vu) rfl (wpAny_bind (wpAny_field hos hds (x := vs) rfl (wpAny_pure ?_)))))))
    refine wpAny_bind (HT.slicePart_ pv ?_)
    show wpAny _ _ (if ((-1 : Int) == 0) = true then _ else _) _ _ s
    rw [if_neg (by decide)]
    refine wpAny_bind (HT.slicePart_ pl (wpAny_bind (HT.slicePart_ pu (wpAny_bind (wpAny_pure ?_)))))
    show wpAny _ _ (match Builtin.Slice.sliceAdjust none none (-1) ((items.size : Nat) : Int) with | (lo, hi) => pure (lo, (-1 : Int), Builtin.Slice.slicePlaces lo hi (-1))) _ _ s
    rw [back_adjust]
    show wpAny _ _ (pure (((items.size : Nat) : Int) - 1, (-1 : Int), Builtin.Slice.slicePlaces (((items.size : Nat) : Int) - 1) (-1) (-1))) _ _ s
    rw [back_places]
    exact wpAny_pure q
  refine wpAny_bind (ap ?_)
  show wpAny _ _ (if (((items.size : Nat) : Int) - 1 == 0 && (-1 : Int) == 1 && items.size == items.size) = true then _ else _) _ _ s
  rw [if_neg (by simp), back_pick]
  exact wpAny_bind (m := Builtin.Tuple.tupleExact _) (wpAny_newObj_type (wpAny_pure ⟨_, rfl, wpAny_pure hq⟩) hlim)
end
section
variable {X : Cx}
/-- t[::-1] of a tuple -/
def tRevT (K : PySem.W.Frag) (te : TE) : TE := fun σ H Q => te σ H fun x H1 => ∃ a xs, x = .ref a ∧ ((SqT K H1 a xs ∧ ∀ p, H1 p = none → Q (.ref p) (upd H1 p (.tup xs.reverse))) ∨ (SqL K H1 a xs ∧ ∀ p, H1 p = none → Q (.ref p) (upd H1 p (.lst xs.reverse))))
theorem pe_revT {e : Expr} {te : TE} {k : Nat} {p1 p2 p3 pos : Pos} (he : PE X e te) : PE X (.Subscript e (.Slice none none (some (.UnaryOp .USub (.Constant (.int 1) k p1) p2)) p3) pos) (tRevT X.K te) := by
  refine ⟨fun pins s σ H Q I h => ?_⟩
  refine Subscript_ (thn (he.run pins s σ H _ I h) fun v s1 ⟨x, H1, I1, r1, q1⟩ => ?_)
  obtain ⟨a, xs, rfl, hx⟩ := q1
  cases r1
  have step : PO X (some (.UnaryOp .USub (.Constant (.int 1) k p1) p2)) (tPart (tUn (rU fun i => .int (-i)) (tC (.int 1)))) := po_some (pe_un un_neg pe_int)
  refine wpAny_Slice (thn (po_none.run pins s1 σ H1 (fun o G => o = none ∧ G = H1) I1 ⟨rfl, rfl⟩) fun vl s2 ⟨_, _, I2, pl, rfl, rfl⟩ => ?_)
  refine thn (po_none.run pins s2 σ _ (fun o G => o = none ∧ G = _) I2 ⟨rfl, rfl⟩) fun vu s3 ⟨_, _, I3, pu, rfl, rfl⟩ => ?_
  refine thn (step.run pins s3 σ _ (fun o G => o = some (-1) ∧ G = _) I3 ⟨1, rfl, -1, rfl, rfl, rfl⟩) fun vs s4 ⟨_, _, I4, ps, rfl, rfl⟩ => ?_
  have I5 := I4.kept (h' := s4.heap.push { cls := .type "slice", data := .fields #[vl, vu, vs] }) (t' := s4.toks) fun b ob q => Heap.get?_push_of_some _ q
  rcases hx with ⟨hx, q⟩ | ⟨hx, q⟩
  · obtain ⟨its, r, ht, hz⟩ := I5.tuple hx
    have hlen := r.length
    refine tail_any (ops := [.ref a, .ref s4.heap.objs.size]) ht.typeIs (PyProof.Rows.slot_tuple_getitem.lookup) ?_ (by with_unfolding_all rfl)
    refine back_tuple ht (Heap.IsSliceOf.new _ vl vu vs) pl pu ps ?_ (by rw [List.size_toArray]; omega)
    refine ⟨.ref _, _, I5.laid (t' := s4.toks) (o := .tup xs.reverse) (fun b ob q => Heap.get?_push_of_some _ q) (Nat.le_refl _) ?_, rfl, q _ (I5.hok.fresh (Nat.le_refl _))⟩
    exact ⟨by rw [List.length_reverse]; exact hz, _, r.reverse, IsTup.new _ _⟩
  · obtain ⟨its, r, ht, hz⟩ := I5.list hx
    have hlen := r.length
    refine tail_any (ops := [.ref a, .ref s4.heap.objs.size]) ht.isList.typeIs (PySem.slot_list_getitem.lookup) ?_ (by with_unfolding_all rfl)
    refine wpAny_getItem_list_slice ht.isList (Heap.IsSliceOf.new _ vl vu vs) pl pu ps (by decide) ?_ (by rw [List.size_toArray]; omega)
    rw [PySem.W.krv_pick]
    refine ⟨.ref _, _, I5.laid (t' := s4.toks) (o := .lst xs.reverse) (fun b ob q => Heap.get?_push_of_some _ q) (Nat.le_refl _) ?_, rfl, q _ (I5.hok.fresh (Nat.le_refl _))⟩
    exact ⟨by rw [List.length_reverse]; exact hz, _, 0, r.reverse, Heap.get?_push_size _ rfl⟩
variable {W : WX} {Z : Ext} {CL : Calls} {ow0 : List Addr} {Hb : Hp}
def wRev (w : WE) : WE := fun ρ P Ex => w ρ (fun y => match y.rd with
  | some (.tuple xs) => P (.d (.tuple xs.reverse))
  | some (.list xs) => P (.own xs.reverse)
  | _ => False) Ex
theorem sim_rev {e : Expr} {k : Nat} {p1 p2 p3 pos : Pos} {we : WE} (h : SimE X W Z CL ow0 Hb e we) : SimE X W Z CL ow0 Hb (.Subscript e (.Slice none none (some (.UnaryOp .USub (.Constant (.int 1) k p1) p2)) p3) pos) (wRev we) := by
  intro S ρ σ H ow P Ex Q r w g b
  refine PEat.of (pe_revT PEat.pe) (h S ρ σ H ow _ Ex _ r w (fun y v H1 q e1 z1 h1 => ?_) b)
  have g1 := g.step e1 r.gr.fpo
  have r1 := r.gr.step e1 z1
  split at q
  · rename_i xs e
    obtain ⟨p, vs, rfl, hp, ha⟩ := h1.tuple e
    exact ⟨p, vs, rfl, .inl ⟨hid_le.sqt hp, fun q' hq => g1.tup q r1 hq ha.reverse⟩⟩
  · rename_i xs e
    obtain ⟨p, vs, rfl, hp, ha⟩ := h1.list e
    exact ⟨p, vs, rfl, .inr ⟨.inl (.of hp), fun q' hq => g1.lst q r1 hq ha.reverse⟩⟩
  · exact q.elim
end
end Pd

/-! Pd34: constants of a module; facts of classes. -/
namespace Pd
open PySem PySem.Spec PyProof.Rows L2
mutual
/-- what a value of the written part is as data -/
def valD (K : PySem.W.Frag) : Nat → Value → Option D
  | _, .none => some .none
  | _, .bool b => some (.bool b)
  | _, .int i _ => some (.int i)
  | _, .str x _ => some (.str x)
  | n + 1, .ref a => match K.lookup a with
    | some o => match o.cls, o.data with
      | .type "tuple", .seq its _ => if its.size ≤ 1000 then (valsD K n its.toList).map PyData.tuple else none
      | _, _ => none
    | none => none
  | _, _ => none
def valsD (K : PySem.W.Frag) : Nat → List Value → Option (List D)
  | _, [] => some []
  | n, u :: us => match valD K n u, valsD K n us with
    | some d, some ds => some (d :: ds)
    | _, _ => none
end
theorem valD_none (K : PySem.W.Frag) (n : Nat) : valD K n .none = some .none := by cases n <;> (unfold valD; rfl)
theorem valD_bool (K : PySem.W.Frag) (n : Nat) (b : Bool) : valD K n (.bool b) = some (.bool b) := by cases n <;> (unfold valD; rfl)
theorem valD_int (K : PySem.W.Frag) (n : Nat) (i : Int) (t : Tok) : valD K n (.int i t) = some (.int i) := by cases n <;> (unfold valD; rfl)
theorem valD_str (K : PySem.W.Frag) (n : Nat) (x : Str) (t : Tok) : valD K n (.str x t) = some (.str x) := by cases n <;> (unfold valD; rfl)
mutual
theorem valD_ok {K : PySem.W.Frag} : ∀ (n : Nat) (u : Value) (d : D), valD K n u = some d → ∃ v, RelV v u ∧ ∀ H, Dt K H v d
  | n, .none, d, e => by
    cases n <;> (unfold valD at e; cases e; exact ⟨.non, rfl, fun _ => .non⟩)
  | n, .bool b, d, e => by
    cases n <;> (unfold valD at e; cases e; exact ⟨.bl b, rfl, fun _ => .bl b⟩)
  | n, .int i t, d, e => by
    cases n <;> (unfold valD at e; cases e; exact ⟨.int i, ⟨t, rfl⟩, fun _ => .int i⟩)
  | n, .str x t, d, e => by
    cases n <;> (unfold valD at e; cases e; exact ⟨.str x, ⟨t, rfl⟩, fun _ => .str x⟩)
  | 0, .ref a, d, e => by unfold valD at e; cases e
  | n + 1, .ref a, d, e => by
    unfold valD at e
    split at e
    · rename_i o ho
      split at e
      · rename_i its c hc hd
        split at e
        · rename_i hz
          obtain ⟨ds, e1, rfl⟩ := Option.map_eq_some_iff.mp e
          obtain ⟨vs, r, hv⟩ := valsD_ok n its.toList ds e1
          exact ⟨.ref a, rfl, fun H => .tup (.inr ⟨o, its, c, ho, hc, hd, by rw [sizeLine_eq]; omega, r⟩) (hv H)⟩
        · cases e
      · cases e
    · cases e
  | n, .ellipsis, d, e => by cases n <;> (unfold valD at e; cases e)
  | n, .notImplemented, d, e => by cases n <;> (unfold valD at e; cases e)
  | n, .float _ _, d, e => by cases n <;> (unfold valD at e; cases e)
  | n, .bytes _ _, d, e => by cases n <;> (unfold valD at e; cases e)
  | n, .type _, d, e => by cases n <;> (unfold valD at e; cases e)
  | n, .builtin _, d, e => by cases n <;> (unfold valD at e; cases e)
theorem valsD_ok {K : PySem.W.Frag} : ∀ (n : Nat) (us : List Value) (ds : List D), valsD K n us = some ds → ∃ vs, Vals vs us ∧ ∀ H, DtAll K H vs ds
  | n, [], ds, e => by unfold valsD at e; cases e; exact ⟨[], .nil, fun _ => .nil⟩
  | n, u :: us, ds, e => by
    unfold valsD at e
    split at e
    · rename_i d ds' e1 e2
      cases e
      obtain ⟨v, r1, h1⟩ := valD_ok n u d e1
      obtain ⟨vs, r2, h2⟩ := valsD_ok n us ds' e2
      exact ⟨v :: vs, .cons r1 r2, fun H => .cons (h1 H) (h2 H)⟩
    · cases e
end
/-- the module's constant x is the data d -/
structure GlC (K : PySem.W.Frag) (mg : Str → Option Value) (x : Str) (d : D) : Prop where
  ex : ∃ v u, mg x = some u ∧ RelV v u ∧ ∀ H, Dt K H v d
theorem GlC.of {K : PySem.W.Frag} {mg : Str → Option Value} {x : Str} {u : Value} {d : D} (hm : mg x = some u) (n : Nat) (e : valD K n u = some d) : GlC K mg x d := by
  obtain ⟨v, r, h⟩ := valD_ok n u d e
  exact ⟨v, u, hm, r, h⟩
section
variable {X : Cx} {W : WX} {Z : Ext} {CL : Calls} {ow0 : List Addr} {Hb : Hp}
theorem sim_globC {x : Str} {pos : Pos} {d : D} (hg : Gl X x) (h : GlC X.K X.mg x d) (hdb : (x == ("__debug__" : Str)) = false := by decide) : SimE X W Z CL ow0 Hb (.Name x pos) (wC d) := by
  obtain ⟨v, u, hm, r, hd⟩ := h.ex
  exact sim_glob hg hm r hd hdb
end
/-- the j-th statement of a class's body -/
def inner (s : Stmt) (j : Nat) : Stmt := match s with
  | .ClassDef _ _ _ body _ _ _ _ _ _ _ => body.getD j (.Pass ⟨0, 0, 0, 0⟩)
  | _ => .Pass ⟨0, 0, 0, 0⟩
theorem exm_two {K : PySem.W.Frag} {C CS : Addr} {v : Bool} (b : PySem.W.subIn K (.ref CS) (.type "BaseException") = some true) (i : PySem.W.isClsIn K CS = true) (t : PySem.W.typeIn K (.ref CS) = some (.type "type")) (r : PySem.W.subIn K (.ref C) (.ref CS) = some v) : PySem.W.exmOne K (.ref C) (.ref CS) = some v := by
  have isC : (PySem.W.clsIn K CS).isSome = true := i
  have ok1 : (PySem.W.subIn K (.ref CS) (.type "BaseException") == some true) = true := by rw [b]; rfl
  have ok2 : ((PySem.W.clsIn K CS).isSome && PySem.W.typeIn K (.ref CS) == some (.type "type")) = true := by rw [isC, t]; rfl
  exact Eq.trans (if_pos ok1) (Eq.trans (if_pos ok2) r)
theorem apart_nil {K : PySem.W.Frag} {mg : Str → Option Value} {xs : List Str} : Apart K mg xs [] [] := True.intro
theorem apart_cons {K : PySem.W.Frag} {mg : Str → Option Value} {xs : List Str} {c wd : Str} {fs : List Str} {r : Clz} {CS : Addr} {r' : List (Addr × Str × List Str)} (hl : fs.length ≤ 4) (hc : mg c = some (.ref CS))
    (h : ∀ e ∈ xs, ∀ C, mg e = some (.ref C) → PySem.W.exmOne K (.ref C) (.ref CS) = some (decide (e = c))) (more : Apart K mg xs r r') : Apart K mg xs ((c, wd, fs) :: r) ((CS, wd, fs) :: r') := ⟨rfl, rfl, hl, hc, h, more⟩
end Pd

/-! Pd35: <, <=, >, >= of data that are alike; min, max of a row. -/
namespace Pd
open PySem PySem.Spec PyProof.Rows L2
section
variable {X : Cx} {Z : Ext} {CL : Calls}
def opCmpD (f : D → D → Bool) : Op2 := fun a b P => match a.rd, b.rd with
  | some x, some y => (PySem.W.alike x y = true ∧ x ≠ .none ∧ min x.depth y.depth ≤ 100) ∧ P (.d (.bool (f x y)))
  | _, _ => False
abbrev opLtD : Op2 := opCmpD fun x y => PySem.W.dataLt x y
abbrev opGtD : Op2 := opCmpD fun x y => PySem.W.dataLt y x
abbrev opLeD : Op2 := opCmpD fun x y => !PySem.W.dataLt y x
abbrev opGeD : Op2 := opCmpD fun x y => !PySem.W.dataLt x y
theorem or_cmpD {o : CmpOp} {f : D → D → Bool} (hu : X.A.units + 200 < cLine)
    (hc : ∀ {A : Around} {E : Value → Shared → Prop} {s : Shared} {a b : Value} {da db : PyData} {as bs : List Addr} {Q : Value → Shared → Prop}, Reads s.heap a da as → Reads s.heap b db bs → PySem.W.alike da db = true → da ≠ .none → A.units + min da.depth db.depth < cLine → Q (.bool (f da db)) s → wpAny (model X.prog X.w) A (compareOp o a b) Q E s) :
    OpR X (compareOp o) (rD CL Z X.K (opCmpD f)) := by
  intro pins s σ H x y v u Q I rx ry h
  obtain ⟨ow, H0, a, b, P, gr, ha, hb, w, gd⟩ := h
  unfold opCmpD at w
  split at w
  · rename_i i j e1 e2
    obtain ⟨as, r1⟩ := ha.reads I e1 rx
    obtain ⟨bs, r2⟩ := hb.reads I e2 ry
    exact hc r1 r2 w.1.1 w.1.2.1 (by have := w.1.2.2; omega) ⟨.bl _, H, I, rfl, gd.sc w.2 gr.ext fun _ => .bl _⟩
  · exact w.elim
theorem or_ltD (hu : X.A.units + 200 < cLine) : OpR X (compareOp .Lt) (rD CL Z X.K opLtD) := or_cmpD hu fun r1 r2 a n u q => PySem.W.lt_data r1 r2 a n u q
theorem or_gtD (hu : X.A.units + 200 < cLine) : OpR X (compareOp .Gt) (rD CL Z X.K opGtD) := or_cmpD hu fun r1 r2 a n u q => PySem.W.gt_data r1 r2 a n u q
theorem or_leD (hu : X.A.units + 200 < cLine) : OpR X (compareOp .LtE) (rD CL Z X.K opLeD) := or_cmpD hu fun r1 r2 a n u q => PySem.W.le_data r1 r2 a n u q
theorem or_geD (hu : X.A.units + 200 < cLine) : OpR X (compareOp .GtE) (rD CL Z X.K opGeD) := or_cmpD hu fun r1 r2 a n u q => PySem.W.ge_data r1 r2 a n u q
theorem fold_pick {f : D → D → Bool} : ∀ (xs : List D) (x : D), xs.foldl (fun a y => if f a y = true then y else a) x ∈ x :: xs
  | [], x => List.mem_cons_self
  | y :: ys, x => by
    rw [List.foldl_cons]
    have h := fold_pick (f := f) ys (if f x y = true then y else x)
    rcases List.mem_cons.mp h with e | h
    · rw [e]
      split
      · exact List.mem_cons_of_mem _ List.mem_cons_self
      · exact List.mem_cons_self
    · exact List.mem_cons_of_mem _ (List.mem_cons_of_mem _ h)
theorem minD_mem (x : D) (xs : List D) : PySem.W.minD x xs ∈ x :: xs := fold_pick (f := fun a y => PySem.W.dataLt y a) xs x
theorem maxD_mem (x : D) (xs : List D) : PySem.W.maxD x xs ∈ x :: xs := fold_pick (f := fun a y => PySem.W.dataLt a y) xs x
/-- min(row), max(row) -/
def bBest (f : D → List D → D) : OpN := op1 fun d P => match d with
  | .list (x :: xs) => (PySem.W.AlikeAll (x :: xs) ∧ PyData.depthAll (x :: xs) ≤ 100) ∧ P (.d (f x xs))
  | .tuple (x :: xs) => (PySem.W.AlikeAll (x :: xs) ∧ PyData.depthAll (x :: xs) ≤ 100) ∧ P (.d (f x xs))
  | _ => False
abbrev bMinR : OpN := bBest PySem.W.minD
abbrev bMaxR : OpN := bBest PySem.W.maxD

theorem reads_all {pins : List (Addr × Obj)} {s : Shared} {σ : L2.St} {H : Hp} (I : Inv X pins σ H s) {ow : List Addr} : ∀ {ws : List V} {us : List Value} {xs : List D}, Vals ws us → DtAll X.K (hid ow H) ws xs → ∃ as, ReadsAll s.heap us xs as
  | _, _, _, .nil, .nil => ⟨_, .nil⟩
  | _, _, _, .cons r t, .cons h a => by
    obtain ⟨as, q1⟩ := Dp.reads I _ _ _ (Dt.mono hid_le h).dp r
    obtain ⟨bs, q2⟩ := reads_all I t a
    exact ⟨_, .cons q1 q2⟩
/-- the item told is the datum told -/
theorem item_told {pins : List (Addr × Obj)} {s : Shared} {σ : L2.St} {H : Hp} (I : Inv X pins σ H s) {ow : List Addr} {ws : List V} {us : List Value} {xs : List D} {x m : D} {i : Nat} {v : Value} {h' : Heap} {bs : List Addr} (r : Vals ws us) (ha : DtAll X.K (hid ow H) ws (x :: xs)) (al : PySem.W.AlikeAll (x :: xs)) (hm : m ∈ x :: xs)
    (hi : us[i]? = some v) (rd : Reads h' v m bs) (hk : ∀ b o, s.heap.get? b = some o → h'.get? b = some o) : ∃ w, RelV w v ∧ Dt X.K (hid ow H) w m := by
  obtain ⟨w, hw, rw'⟩ : ∃ w, ws[i]? = some w ∧ RelV w v := by
    cases e : ws[i]? with
    | none => rw [r.none_of e] at hi; cases hi
    | some w =>
      obtain ⟨u, h1, h2⟩ := r.get e
      rw [hi] at h1
      cases h1
      exact ⟨w, rfl, h2⟩
  obtain ⟨d, hd, hdt⟩ := ha.get' hw
  obtain ⟨as, ra⟩ := Dp.reads I _ _ _ (Dt.mono hid_le hdt).dp rw'
  have e : d = m := PySem.W.alike_unique _ _ _ _ _ (al.1 d (List.mem_of_getElem? hd) m hm) (Reads.keeps hk ra) rd
  exact ⟨w, rw', e ▸ hdt⟩
theorem cd_best {id : String} {f : D → List D → D} (hf : ∀ x xs, f x xs ∈ x :: xs) (hu : X.A.units + 200 < cLine)
    (hL : ∀ {pins : List (Addr × Obj)} {s : Shared} {σ : L2.St} {H : Hp} {l : Addr} {vs : Array Value} {x : PyData} {xs : List PyData} {as : List Addr} {Q : Value → Shared → Prop}, Inv X pins σ H s → s.heap.IsList l vs → ReadsAll s.heap vs.toList (x :: xs) as → PySem.W.AlikeAll (x :: xs) → X.A.units + 1 + PyData.depthAll (x :: xs) < cLine →
      (∀ (i : Nat) v h' tk bs, vs[i]? = some v → Reads h' v (f x xs) bs → (∀ b o, s.heap.get? b = some o → h'.get? b = some o) → Q v { s with heap := h', toks := tk }) → wpAny (model X.prog X.w) X.A (call (.builtin id) [.ref l]) Q X.xe s)
    (hT : ∀ {pins : List (Addr × Obj)} {s : Shared} {σ : L2.St} {H : Hp} {l : Addr} {vs : Array Value} {x : PyData} {xs : List PyData} {as : List Addr} {Q : Value → Shared → Prop}, Inv X pins σ H s → s.heap.IsTuple l vs → ReadsAll s.heap vs.toList (x :: xs) as → PySem.W.AlikeAll (x :: xs) → X.A.units + 1 + PyData.depthAll (x :: xs) < cLine →
      (∀ (i : Nat) v h' tk bs, vs[i]? = some v → Reads h' v (f x xs) bs → (∀ b o, s.heap.get? b = some o → h'.get? b = some o) → Q v { s with heap := h', toks := tk }) → wpAny (model X.prog X.w) X.A (call (.builtin id) [.ref l]) Q X.xe s) :
    CallR X (.builtin id) (rC CL Z X.K (bBest f)) := by
  intro pins s σ H vs us Q I rv hyp
  obtain ⟨ow, H0, ys, P, gr, hs, w, g⟩ := hyp
  obtain ⟨v, y, d, rfl, hy, ed, w⟩ := one hs w
  have last : ∀ {ws : List V} {its : List Value} {x : D} {xs : List D}, Vals ws its → DtAll X.K (hid ow H) ws (x :: xs) → PySem.W.AlikeAll (x :: xs) → P (.d (f x xs)) → ∀ (i : Nat) v h' tk bs, its.toArray[i]? = some v → Reads h' v (f x xs) bs → (∀ b o, s.heap.get? b = some o → h'.get? b = some o) → EP X pins σ Q v { s with heap := h', toks := tk } :=
    fun r ha al p i v h' tk bs hi rd hk => by
      obtain ⟨w, rw', hd⟩ := item_told I r ha al (hf _ _) (by simpa using hi) rd hk
      exact ⟨w, H, I.kept hk, rw', g _ _ _ p (.refl _ _) gr.ext hd⟩
  split at w
  · rename_i x xs
    obtain ⟨⟨w1, w2⟩, w⟩ := w
    obtain ⟨p, ws, rfl, hp, ha⟩ := hy.list ed
    rw [Vals.ref1 rv]
    obtain ⟨its, r1, pl, hz⟩ := I.list (.inl (.of hp))
    obtain ⟨as, ra⟩ := reads_all I r1 ha
    exact hL I pl.isList ra w1 (by omega) (last r1 ha w1 w)
  · rename_i x xs
    obtain ⟨⟨w1, w2⟩, w⟩ := w
    obtain ⟨p, ws, rfl, hp, ha⟩ := hy.tuple ed
    rw [Vals.ref1 rv]
    obtain ⟨its, r1, pl, hz⟩ := I.tuple (hid_le.sqt hp)
    obtain ⟨as, ra⟩ := reads_all I r1 ha
    exact hT I pl ra w1 (by omega) (last r1 ha w1 w)
  · exact w.elim
theorem cd_minR (hc : X.calm = true) (hu : X.A.units + 200 < cLine) : CallR X (.builtin "min") (rC CL Z X.K bMinR) := cd_best minD_mem hu (fun I a b c d e => PySem.W.min_list_data (I.ok.hd hc) a b c d e) fun I a b c d e => PySem.W.min_tuple_data (I.ok.hd hc) a b c d e
theorem cd_maxR (hc : X.calm = true) (hu : X.A.units + 200 < cLine) : CallR X (.builtin "max") (rC CL Z X.K bMaxR) := cd_best maxD_mem hu (fun I a b c d e => PySem.W.max_list_data (I.ok.hd hc) a b c d e) fun I a b c d e => PySem.W.max_tuple_data (I.ok.hd hc) a b c d e
end
end Pd

/-! Pd36: a, b, c = x, y, z with values of any kind (new lists among them). -/
namespace Pd
open PySem PySem.Spec PyProof.Rows L2
section
variable {X : Cx} {W : WX} {Z : Ext} {CL : Calls} {ow0 : List Addr} {Hb : Hp}
/-- the new lists of a row stand apart -/
def Dis (vs : List V) (ys : List Val) : Prop := ∀ (i j : Nat) (xs zs : List D) (p : Addr), i ≠ j → ys[i]? = some (.own xs) → ys[j]? = some (.own zs) → vs[i]? = some (.ref p) → vs[j]? = some (.ref p) → False
/-- values as slots hold them -/
def SVs (CL : Calls) (Z : Ext) (K : PySem.W.Frag) (ow : List Addr) (Hb H : Hp) (vs : List V) (ys : List Val) : Prop := vs.length = ys.length ∧ ∀ (k : Nat) (y : Val) (v : V), ys[k]? = some y → vs[k]? = some v → SV CL Z K ow Hb H v y
/-- new lists are hidden -/
theorem Rel.hide {S : Hp} {ρ : Ev} {σ : L2.St} {H H1 : Hp} {ow : List Addr} (r : Rel CL Z X.K ow0 Hb S ρ σ H ow) (e : SameBut (fp Z) H H1) (z : RZ Z H1) {ps : List Addr} (hn : ∀ p ∈ ps, New H p) (hs : ∀ p ∈ ps, ∃ o, NT o ∧ H1 p = some o) :
    Rel CL Z X.K ow0 Hb S ρ σ H1 (ps ++ ow) := by
  have grow : Le (hid ow H) (hid (ps ++ ow) H1) := hid_mono e r.gr.fpo fun a m => (List.mem_append.mp m).elim (fun q => .inr (hn a q)) .inl
  refine ⟨⟨z, fun a m => List.mem_append_right _ (r.gr.fpo a m), fun a m => ?_⟩, r.len, r.sb.trans e, fun a m => List.mem_append_right _ (r.sub a m), r.mark.trans grow, fun j w q => ?_, r.sep⟩
  · rcases List.mem_append.mp m with m | m
    · exact hs a m
    · obtain ⟨o, t, q⟩ := r.gr.isS a m
      by_cases hf : a ∈ fp Z
      · exact z.there a hf
      · exact ⟨o, t, e a o hf t q⟩
  · obtain ⟨u, u1, u2⟩ := r.val j w q
    refine ⟨u, u1, ?_⟩
    cases w with
    | d x => exact Dt.mono grow u2
    | own as =>
      obtain ⟨t, ts, rfl, t0, t1, t2, t3, t4⟩ := u2
      exact ⟨t, ts, rfl, t0, List.mem_append_right _ t1, t2, e t _ t2 nt_lst t3, DtAll.mono grow t4⟩
    | bor as => exact u2
    | bag => exact u2
    | fn f φ => exact u2
/-- a slot takes what stands -/
theorem Rel.slotS {S : Hp} {ρ : Ev} {σ : L2.St} {H : Hp} {ow : List Addr} {i : Nat} {v : V} {y : Val} (r : Rel CL Z X.K ow0 Hb S ρ σ H ow) (h : SV CL Z X.K ow Hb H v y)
    (ap : ∀ (j : Nat) (xs zs : List D) (p : Addr), j ≠ i → y = .own xs → ρ[j]? = some (some (.own zs)) → v = .ref p → σ[j]? = some (some (.ref p)) → False) : Rel CL Z X.K ow0 Hb S (ρ.set i (some y)) (σ.set i (some v)) H ow := by
  have old : ∀ (j : Nat) (w : Val), j ≠ i → (ρ.set i (some y))[j]? = some (some w) → ρ[j]? = some (some w) := fun j w n q => by rwa [List.getElem?_set_ne (Ne.symm n)] at q
  have at_i : ∀ (w : Val), (ρ.set i (some y))[i]? = some (some w) → w = y ∧ i < σ.length := fun w q => by
    by_cases hi : i < ρ.length
    · rw [List.getElem?_set_self hi] at q
      exact ⟨(Option.some.inj (Option.some.inj q)).symm, by rw [r.len]; exact hi⟩
    · rw [List.getElem?_eq_none (by simpa using hi)] at q
      cases q
  refine ⟨r.gr, by simp [r.len], r.sb, r.sub, r.mark, fun j w q => ?_, fun j k as bs q nj q1 q2 s1 s2 => ?_⟩
  · by_cases hj : j = i
    · subst hj
      obtain ⟨rfl, hi⟩ := at_i w q
      exact ⟨v, by rw [List.getElem?_set_self hi], h⟩
    · obtain ⟨u, u1, u2⟩ := r.val j w (old j w hj q)
      exact ⟨u, by rw [List.getElem?_set_ne (Ne.symm hj)]; exact u1, u2⟩
  · by_cases hj : j = i
    · subst hj
      have hk : k ≠ j := Ne.symm nj
      obtain ⟨e1, l1⟩ := at_i _ q1
      rw [List.getElem?_set_self l1] at s1
      rw [List.getElem?_set_ne (Ne.symm hk)] at s2
      exact ap k as bs q hk e1.symm (old k _ hk q2) (Option.some.inj (Option.some.inj s1)) s2
    · by_cases hk : k = i
      · subst hk
        obtain ⟨e1, l1⟩ := at_i _ q2
        rw [List.getElem?_set_self l1] at s2
        rw [List.getElem?_set_ne (Ne.symm hj)] at s1
        exact ap j bs as q hj e1.symm (old j _ hj q1) (Option.some.inj (Option.some.inj s2)) s1
      · rw [List.getElem?_set_ne (Ne.symm hj)] at s1
        rw [List.getElem?_set_ne (Ne.symm hk)] at s2
        exact r.sep j k as bs q nj (old j _ hj q1) (old k _ hk q2) s1 s2
def setAll : Ev → List Nat → List Val → Ev
  | ρ, i :: is, y :: ys => setAll (ρ.set i (some y)) is ys
  | ρ, _, _ => ρ
def setAllV : L2.St → List Nat → List V → L2.St
  | σ, i :: is, v :: vs => setAllV (σ.set i (some v)) is vs
  | σ, _, _ => σ
theorem Rel.putAll {S : Hp} {H : Hp} {ow : List Addr} : ∀ {is : List Nat} {vs : List V} {ys : List Val} {ρ : Ev} {σ : L2.St}, Rel CL Z X.K ow0 Hb S ρ σ H ow → is.Nodup → (∀ (k : Nat) (y : Val) (v : V), ys[k]? = some y → vs[k]? = some v → SV CL Z X.K ow Hb H v y) → vs.length = ys.length → Dis vs ys →
    (∀ (j k : Nat) (xs zs : List D) (p : Addr), ys[k]? = some (.own xs) → vs[k]? = some (.ref p) → ρ[j]? = some (some (.own zs)) → σ[j]? = some (some (.ref p)) → False) → Rel CL Z X.K ow0 Hb S (setAll ρ is ys) (setAllV σ is vs) H ow
  | [], vs, ys, ρ, σ, r, _, _, _, _, _ => by cases vs <;> cases ys <;> exact r
  | i :: is, [], ys, ρ, σ, r, _, _, hl, _, _ => by cases ys with
    | nil => exact r
    | cons _ _ => simp at hl
  | i :: is, v :: vs, [], ρ, σ, r, _, _, hl, _, _ => by simp at hl
  | i :: is, v :: vs, y :: ys, ρ, σ, r, nd, hv, hl, di, ap => by
    obtain ⟨n1, n2⟩ := List.nodup_cons.mp nd
    have r1 := r.slotS (i := i) (hv 0 y v rfl rfl) fun j xs zs p hj ey q1 s1 s2 => ap j 0 xs zs p (by rw [ey]; rfl) (by rw [s1]; rfl) q1 s2
    refine Rel.putAll (is := is) (vs := vs) (ys := ys) r1 n2 (fun k w u q1 q2 => hv (k + 1) w u (by simpa using q1) (by simpa using q2)) (by simpa using hl) (fun a b xs zs p n q1 q2 s1 s2 => di (a + 1) (b + 1) xs zs p (by omega) (by simpa using q1) (by simpa using q2) (by simpa using s1) (by simpa using s2)) fun j k xs zs p q1 s1 q2 s2 => ?_
    by_cases hj : j = i
    · subst hj
      by_cases hi : j < ρ.length
      · rw [List.getElem?_set_self hi] at q2
        rw [List.getElem?_set_self (by rw [r.len]; exact hi)] at s2
        exact di 0 (k + 1) zs xs p (by omega) (by simpa using Option.some.inj q2) (by simpa using q1) (by simpa using Option.some.inj s2) (by simpa using s1)
      · rw [List.getElem?_eq_none (by simpa using hi)] at q2
        cases q2
    · rw [List.getElem?_set_ne (Ne.symm hj)] at q2 s2
      exact ap j (k + 1) xs zs p (by simpa using q1) (by simpa using s1) q2 s2
def slvOk (y : Val) : Bool := (slv y).isSome
def wUcons (w : WE) (ws : WA) : WA := fun ρ P Ex => w ρ (fun y => slvOk y = true ∧ ws ρ (fun ys => P (y :: ys)) Ex) Ex
def SimU (X : Cx) (W : WX) (Z : Ext) (CL : Calls) (ow0 : List Addr) (Hb : Hp) (es : List Expr) (w : WA) : Prop := ∀ (S : Hp) (ρ : Ev) (σ : L2.St) (H : Hp) (ow : List Addr) (P : List Val → Prop) (Ex : Xn → Prop) (Q : List V → Hp → Prop),
  Rel CL Z X.K ow0 Hb S ρ σ H ow → w ρ P Ex → (∀ ys vs H' ow', P ys → SameBut (fp Z) H H' → Rel CL Z X.K ow0 Hb S ρ σ H' ow' → (∀ a ∈ ow, a ∈ ow') → SVs CL Z X.K ow' Hb H' vs ys → Dis vs ys → (∀ (k : Nat) (xs : List D) (p : Addr), ys[k]? = some (.own xs) → vs[k]? = some (.ref p) → p ∉ ow) → Q vs H') →
  Bd Z X.K ow X.mg W σ H Ex → PAat X es σ H Q
theorem sim_unil : SimU X W Z CL ow0 Hb [] wNil := fun S ρ σ H ow P Ex Q r w g b => PAat.of pa_nil (g [] [] H ow w (.refl _ _) r (fun _ m => m) ⟨rfl, fun k y v e => by simp at e⟩ (fun i j xs zs p _ e => by simp at e) fun k xs p e => by simp at e)
theorem Bd.deep {W : WX} {σ : L2.St} {H : Hp} {ow ow' : List Addr} {Ex : Xn → Prop} (b : Bd Z X.K ow X.mg W σ H Ex) (h : ∀ a ∈ ow, a ∈ ow') : Bd Z X.K ow' X.mg W σ H Ex := fun x cls d H' p er e z => by
  refine b x cls d H' p ⟨er.1, fun n => ?_⟩ e z
  obtain ⟨dx, fs, h1, h2, h3, h4⟩ := er.2 n
  refine ⟨dx, fs, h1, h2, h3, DtAll.mono (fun a o q => ?_) h4⟩
  obtain ⟨m, q1, t⟩ := hid_some q
  exact hid_of (fun q2 => m (h a q2)) q1 t
theorem SV.grow {H H' : Hp} {ow ow' : List Addr} {v : V} {y : Val} (h : SV CL Z X.K ow Hb H v y) (e : SameBut (fp Z) H H') (g : Le (hid ow H) (hid ow' H')) (sub : ∀ a ∈ ow, a ∈ ow') : SV CL Z X.K ow' Hb H' v y := by
  cases y with
  | d x => exact Dt.mono g h
  | own as =>
    obtain ⟨t, ts, rfl, t0, t1, t2, t3, t4⟩ := h
    exact ⟨t, ts, rfl, t0, sub _ t1, t2, e t _ t2 nt_lst t3, DtAll.mono g t4⟩
  | bor as => exact h
  | bag => exact h
  | fn f φ => exact h
/-- a value told, kept by a slot to be: its own list is hidden from here on -/
theorem Rel.take {S : Hp} {ρ : Ev} {σ : L2.St} {H H1 : Hp} {ow : List Addr} {v : V} {y : Val} (r : Rel CL Z X.K ow0 Hb S ρ σ H ow) (e : SameBut (fp Z) H H1) (z : RZ Z H1) (h : RV CL Z X.K ow H H1 v y) (ok : slvOk y = true) :
    ∃ ow1, Rel CL Z X.K ow0 Hb S ρ σ H1 ow1 ∧ (∀ a ∈ ow, a ∈ ow1) ∧ SV CL Z X.K ow1 Hb H1 v y ∧ ∀ xs p, y = .own xs → v = .ref p → p ∈ ow1 ∧ p ∉ ow := by
  cases y with
  | own xs =>
    obtain ⟨p, us, rfl, h0, n, hp, ha⟩ := h
    have r1 := r.hide e z (ps := [p]) (fun q m => by rw [List.mem_singleton.mp m]; exact h0) fun q m => ⟨.lst us, nt_lst, by rw [List.mem_singleton.mp m]; exact hp⟩
    refine ⟨[p] ++ ow, r1, fun a m => List.mem_append_right _ m, ⟨p, us, rfl, r.sb.free (fun q => n (r.gr.fpo p q)) h0, List.mem_append_left _ List.mem_cons_self, fun q => n (r.gr.fpo p q), hp, ha⟩, fun ys q _ eq => ?_⟩
    cases eq
    exact ⟨List.mem_append_left _ List.mem_cons_self, n⟩
  | d x => exact ⟨ow, r.step e z, fun _ m => m, h, fun _ _ q => nomatch q⟩
  | bor x => cases ok
  | bag => exact ⟨ow, r.step e z, fun _ m => m, h, fun _ _ q => nomatch q⟩
  | fn f φ => exact ⟨ow, r.step e z, fun _ m => m, h, fun _ _ q => nomatch q⟩
theorem Rel.markAs {S S' : Hp} {ρ : Ev} {σ : L2.St} {H : Hp} {ow : List Addr} (r : Rel CL Z X.K ow0 Hb S ρ σ H ow) (h : Le S' (hid ow H)) : Rel CL Z X.K ow0 Hb S' ρ σ H ow := ⟨r.gr, r.len, r.sb, r.sub, h, r.val, r.sep⟩
theorem sim_ucons {e : Expr} {es : List Expr} {we : WE} {ws : WA} (he : SimE X W Z CL ow0 Hb e we) (hs : SimU X W Z CL ow0 Hb es ws) (hst : starEach (e :: es) X.env = (false, eval e X.env) :: starEach es X.env := by rfl) : SimU X W Z CL ow0 Hb (e :: es) (wUcons we ws) := by
  intro S ρ σ H ow P Ex Q r w g b
  refine PAat.of (pa_cons PEat.pe PAat.pa hst) (he S ρ σ H ow _ Ex _ r w (fun y v H1 p1 e1 z1 h1 => ?_) b)
  obtain ⟨ok, p1⟩ := p1
  obtain ⟨ow1, r1, sub1, sv1, own1⟩ := r.take e1 z1 h1 ok
  refine hs (hid ow1 H1) ρ σ H1 ow1 _ Ex _ (r1.markAs fun _ _ q => q) p1 (fun ys vs H2 ow2 p2 e2 r2 sub2 sv2 d2 n2 => ?_) ((b.step e1).deep sub1)
  refine g (y :: ys) (v :: vs) H2 ow2 p2 (e1.trans e2) (r2.markAs (r1.mark.trans r2.mark)) (fun a m => sub2 a (sub1 a m)) ⟨by simp [sv2.1], fun k y' v' q1 q2 => ?_⟩ (fun i j xs zs p n q1 q2 s1 s2 => ?_) fun k xs p q1 q2 => ?_
  · cases k with
    | zero =>
      simp at q1 q2
      subst q1
      subst q2
      exact sv1.grow e2 r2.mark sub2
    | succ k => exact sv2.2 k y' v' (by simpa using q1) (by simpa using q2)
  · cases i with
    | zero =>
      cases j with
      | zero => exact n rfl
      | succ j => exact n2 j zs p (by simpa using q2) (by simpa using s2) (own1 xs p (by simpa using q1) (by simpa using s1)).1
    | succ i =>
      cases j with
      | zero => exact n2 i xs p (by simpa using q1) (by simpa using s1) (own1 zs p (by simpa using q2) (by simpa using s2)).1
      | succ j => exact d2 i j xs zs p (fun z => n (by rw [z])) (by simpa using q1) (by simpa using q2) (by simpa using s1) (by simpa using s2)
  · cases k with
    | zero => exact (own1 xs p (by simpa using q1) (by simpa using q2)).2
    | succ k => exact fun m => n2 k xs p (by simpa using q1) (by simpa using q2) (sub1 p m)
def wUnp (is : List Nat) (wa : WA) : WS := fun E ρ => wa ρ (fun ys => ys.length = is.length ∧ E.nx (setAll ρ is ys)) (fun x => E.ex x ρ)
theorem Rel.unp {S : Hp} {ρ : Ev} {σ : L2.St} {H : Hp} {ow ow1 : List Addr} {is : List Nat} {vs : List V} {ys : List Val} {H0 : Hp} (r0 : Rel CL Z X.K ow0 Hb S ρ σ H0 ow) (r : Rel CL Z X.K ow0 Hb S ρ σ H ow1) (h : SVs CL Z X.K ow1 Hb H vs ys) (di : Dis vs ys) (nd : is.Nodup)
    (fr : ∀ (k : Nat) (xs : List D) (p : Addr), ys[k]? = some (.own xs) → vs[k]? = some (.ref p) → p ∉ ow) : Rel CL Z X.K ow0 Hb S (setAll ρ is ys) (setAllV σ is vs) H ow1 := by
  refine r.putAll nd h.2 h.1 di fun j k xs zs p q1 s1 q2 s2 => ?_
  obtain ⟨u, u1, t, ts, rfl, t0, t1, t2, t3, t4⟩ := r0.val j _ q2
  rw [s2] at u1
  cases u1
  exact fr k xs _ q1 s1 t1
/-- names as targets -/
inductive Nms (X : Cx) : List Expr → List Nat → Prop
  | nil : Nms X [] []
  | cons {x : Str} {p : Pos} {i : Nat} {es : List Expr} {is : List Nat} (hi : X.N[i]? = some x) (hx : Loc X.env.scope x) (hf : X.fn x = true ∨ X.env.scope.names.lookup x = some .local) (ha : (assignEach (.Name x p :: es) X.env).map (·.2) = assign (.Name x p) X.env :: (assignEach es X.env).map (·.2)) (r : Nms X es is) : Nms X (.Name x p :: es) (i :: is)
theorem Nms.pgs {es : List Expr} {is : List Nat} (hN : X.N.Nodup) (h : Nms X es is) : PGs X es (fun vs σ H Q => vs.length = is.length ∧ Q (setAllV σ is vs) H) := by
  induction h with
  | nil =>
    refine ⟨fun pins s σ H vs us Q I r h => ?_⟩
    obtain ⟨h1, h2⟩ := h
    cases vs with
    | nil => exact pgs_nil.run pins s σ H [] us Q I r ⟨rfl, h2⟩
    | cons _ _ => simp at h1
  | @cons x p i es is hi hx hf ha _ ih =>
    refine ⟨fun pins s σ H vs us Q I r h => ?_⟩
    obtain ⟨h1, h2⟩ := h
    cases vs with
    | nil => simp at h1
    | cons v vs => exact (pgs_cons (pg_name hN hi hx hf) ih ha).run pins s σ H (v :: vs) us Q I r ⟨v, vs, rfl, by simpa using h1, h2⟩
theorem sim_unpT {ts es : List Expr} {is : List Nat} {wa : WA} {k k2 : Nat} {tp ep pos : Pos} (hc : X.calm = true) (hN : X.N.Nodup) (h : SimU X W Z CL ow0 Hb es wa) (ht : Nms X ts is) (nd : is.Nodup := by decide) (hn : (assignEach ts X.env).length = is.length := by rfl) (hst : (assignEach ts X.env).findIdx? (·.1) = none := by rfl)
    (hs : swapsWithSole [.Tuple ts k tp] (.Tuple es k2 ep) pos.line X.env = pure false := by rfl) (hw : swappedStores [.Tuple ts k tp] (.Tuple es k2 ep) X.env = pure none := by rfl) (h1 : (assignEach [.Tuple ts k tp] X.env).map (·.2) = [assign (.Tuple ts k tp) X.env] := by rfl) (few : is.length ≤ 10 := by decide) :
    SimS X W Z CL ow0 Hb (.Assign [.Tuple ts k tp] (.Tuple es k2 ep) pos) (wUnp is wa) := by
  intro S ρ σ H ow E D r w o
  refine PSat.of (ps_asg (pe_tup PAat.pa) (pg_tup hc (ht.pgs hN) hn hst) hs hw h1) ?_
  refine h S ρ σ H ow _ _ _ r w (fun ys vs H1 ow1 p1 e1 r1 sub sv di fr => ?_) (o.bd r)
  have hl : vs.length = is.length := sv.1.trans p1.1
  refine ⟨by rw [hl, sizeLine_eq]; omega, fun p hp => ⟨p, vs, rfl, .inl (.of upd_same), hl, hl, ?_⟩⟩
  have e2 : SameBut (fp Z) H1 (upd H1 p (.tup vs)) := .new hp
  have r2 := (r.unp r1 sv di nd fr).step e2 (r1.gr.ext.le (Le.new hp))
  exact o.nx _ _ _ _ p1.2 r2
theorem sim_unp2 (i j : Nat) {x y : Str} {a b : Expr} {wa : WA} {px py pt pos : Pos} {kt k2 pt2} (hc : X.calm = true) (h : SimU X W Z CL ow0 Hb [a, b] wa) (hN : X.N.Nodup) (hij : i ≠ j := by decide)
    (hi : X.N[i]? = some x := by rfl) (hj : X.N[j]? = some y := by rfl) (hx : X.env.scope.names.lookup x = some .local := by rfl) (hy : X.env.scope.names.lookup y = some .local := by rfl)
    (hw : swappedStores [.Tuple [.Name x px, .Name y py] kt pt] (.Tuple [a, b] k2 pt2) X.env = pure (some [x, y]) := by rfl)
    (hs : swapsWithSole [.Tuple [.Name x px, .Name y py] kt pt] (.Tuple [a, b] k2 pt2) pos.line X.env = pure false := by rfl) :
    SimS X W Z CL ow0 Hb (.Assign [.Tuple [.Name x px, .Name y py] kt pt] (.Tuple [a, b] k2 pt2) pos) (wUnp [i, j] wa) := by
  intro S ρ σ H ow E D r w o
  refine PSat.of (ps_par hc hN hi hj hij hx hy PAat.pa hw hs) (h S ρ σ H ow _ _ _ r w (fun ys vs H1 ow1 p1 e1 r1 sub sv di fr => ?_) (o.bd r))
  have hl : vs.length = 2 := sv.1.trans p1.1
  have r2 := r.unp r1 sv di (is := [i, j]) (by simp [hij]) fr
  match vs, hl with
  | [v1, v2], _ => exact ⟨v1, v2, rfl, o.nx _ _ _ _ p1.2 r2⟩
theorem sim_unp3 (i j l : Nat) {x y u : Str} {a b c : Expr} {wa : WA} {px py pz pt pos : Pos} {kt k2 pt2} (hc : X.calm = true) (h : SimU X W Z CL ow0 Hb [a, b, c] wa) (hN : X.N.Nodup) (hij : i ≠ j := by decide) (hil : i ≠ l := by decide) (hjl : j ≠ l := by decide)
    (hi : X.N[i]? = some x := by rfl) (hj : X.N[j]? = some y := by rfl) (hl : X.N[l]? = some u := by rfl) (hx : X.env.scope.names.lookup x = some .local := by rfl) (hy : X.env.scope.names.lookup y = some .local := by rfl) (hz : X.env.scope.names.lookup u = some .local := by rfl)
    (hw : swappedStores [.Tuple [.Name x px, .Name y py, .Name u pz] kt pt] (.Tuple [a, b, c] k2 pt2) X.env = pure (some [x, y, u]) := by rfl)
    (hs : swapsWithSole [.Tuple [.Name x px, .Name y py, .Name u pz] kt pt] (.Tuple [a, b, c] k2 pt2) pos.line X.env = pure false := by rfl) :
    SimS X W Z CL ow0 Hb (.Assign [.Tuple [.Name x px, .Name y py, .Name u pz] kt pt] (.Tuple [a, b, c] k2 pt2) pos) (wUnp [i, j, l] wa) := by
  intro S ρ σ H ow E D r w o
  refine PSat.of (ps_par3 hc hN hi hj hl hij hil hjl hx hy hz PAat.pa hw hs) (h S ρ σ H ow _ _ _ r w (fun ys vs H1 ow1 p1 e1 r1 sub sv di fr => ?_) (o.bd r))
  have hl : vs.length = 3 := sv.1.trans p1.1
  have r2 := r.unp r1 sv di (is := [i, j, l]) (by simp [hij, hil, hjl]) fr
  match vs, hl with
  | [v1, v2, v3], _ => exact ⟨v1, v2, v3, rfl, o.nx _ _ _ _ p1.2 r2⟩
end
end Pd

/-! Pd37: an own list read as data within one expression (thaw). -/
namespace Pd
open PySem PySem.Spec PyProof.Rows L2
mutual
/-- no list, no dict is in it -/
def noLst : D → Bool
  | .list _ => false
  | .dict _ => false
  | .tuple xs => noLsts xs
  | _ => true
def noLsts : List D → Bool
  | [] => true
  | x :: xs => noLst x && noLsts xs
end
theorem noLsts_all : ∀ xs : List D, noLsts xs = xs.all noLst
  | [] => rfl
  | x :: xs => by unfold noLsts; rw [noLsts_all xs]; rfl
mutual
theorem Dt.rehide {K : PySem.W.Frag} {H : Hp} {ow1 ow2 : List Addr} (h : ∀ a ∈ ow2, a ∈ ow1 ∨ ∃ us, H a = some (.lst us)) : ∀ {v : V} {d : D}, Dt K (hid ow1 H) v d → noLst d = true → Dt K (hid ow2 H) v d
  | _, _, .non, _ => .non
  | _, _, .bl b, _ => .bl b
  | _, _, .int i, _ => .int i
  | _, _, .str x, _ => .str x
  | _, _, .lst _ _, e => by unfold noLst at e; cases e
  | _, _, .tup (a := a) (ds := ds) q t, e => by
    have e' : noLsts ds = true := by unfold noLst at e; exact e
    refine .tup ?_ (DtAll.rehide h t e')
    have up : ∀ {o : HO}, hid ow1 H a = some o → (∀ us, o ≠ .lst us) → hid ow2 H a = some o := fun {o} z n => by
      obtain ⟨m, q1, t1⟩ := hid_some z
      refine hid_of (fun m2 => ?_) q1 t1
      rcases h a m2 with z1 | ⟨us, z1⟩
      · exact m z1
      · rw [q1] at z1; exact n us (Option.some.inj z1)
    rcases q with (q | ⟨o, q⟩) | q
    · exact .inl (.inl (up q fun us z => by cases z))
    · exact .inl (.inr ⟨o, up q fun us z => by cases z⟩)
    · exact .inr q
theorem DtAll.rehide {K : PySem.W.Frag} {H : Hp} {ow1 ow2 : List Addr} (h : ∀ a ∈ ow2, a ∈ ow1 ∨ ∃ us, H a = some (.lst us)) : ∀ {vs : List V} {ds : List D}, DtAll K (hid ow1 H) vs ds → noLsts ds = true → DtAll K (hid ow2 H) vs ds
  | _, _, .nil, _ => .nil
  | _, _, .cons (d := d) (ds := ds) a t, e => by
    have e' : noLst d = true ∧ noLsts ds = true := by unfold noLsts at e; simpa using e
    exact .cons (Dt.rehide h a e'.1) (DtAll.rehide h t e'.2)
end
def noLv : Val → Bool
  | .d x => noLst x
  | .own xs => noLsts xs
  | _ => false
section
variable {X : Cx} {W : WX} {Z : Ext} {CL : Calls} {ow0 : List Addr} {Hb : Hp}
theorem Rel.thaw {S : Hp} {ρ : Ev} {σ : L2.St} {H : Hp} {ow : List Addr} {i : Nat} {xs : List D} (r : Rel CL Z X.K ow0 Hb S ρ σ H ow) (g0 : Gr Z ow0 Hb) (hi : ρ[i]? = some (some (.own xs))) :
    ∃ p us, H p = some (.lst us) ∧ p ∉ fp Z ∧ Rel CL Z X.K ow0 Hb S (ρ.set i (some (.d (.list xs)))) σ H (ow.filter (· ≠ p)) := by
  obtain ⟨v, h1, p, vs, rfl, hb, hp, hf, h2, h3⟩ := r.val i _ hi
  have less : Le (hid ow H) (hid (ow.filter (· ≠ p)) H) := hid_less fun a m => (List.mem_filter.mp m).1
  refine ⟨p, vs, h2, hf, ⟨r.gr.ext, fun a m => List.mem_filter.mpr ⟨r.gr.fpo a m, by simpa using fun e : a = p => hf (e ▸ m)⟩, fun a m => r.gr.isS a (List.mem_filter.mp m).1⟩, by rw [List.length_set, r.len], r.sb,
    fun a m => List.mem_filter.mpr ⟨r.sub a m, by simpa using fun e : a = p => g0.no hb (e ▸ m)⟩, r.mark.trans less, fun j y q => ?_, fun j k as bs q nj q1 q2 s1 s2 => ?_⟩
  · rcases getSet q with ⟨rfl, z, _⟩ | ⟨n, z⟩
    · cases z
      exact ⟨_, h1, .lst (hid_of (fun m => by simpa using (List.mem_filter.mp m).2) h2 nt_lst) (DtAll.mono less h3)⟩
    · obtain ⟨u, u1, u2⟩ := r.val j y z
      refine ⟨u, u1, ?_⟩
      cases y with
      | d x => exact Dt.mono less u2
      | own as =>
        obtain ⟨t, ts, rfl, t0, t1, t2, t3, t4⟩ := u2
        exact ⟨t, ts, rfl, t0, List.mem_filter.mpr ⟨t1, by simpa using fun e : t = p => r.sep j i as xs t n z hi u1 (by rw [e]; exact h1)⟩, t2, t3, DtAll.mono less t4⟩
      | bor as => exact u2
      | bag => exact u2
      | fn f φ => exact u2
  · have un : ∀ {j : Nat} {as : List D}, (ρ.set i (some (.d (.list xs))))[j]? = some (some (.own as)) → ρ[j]? = some (some (.own as)) := fun {j as} q => by
      rcases getSet q with ⟨rfl, z, _⟩ | ⟨_, z⟩
      · cases z
      · exact z
    exact r.sep j k _ _ q nj (un q1) (un q2) s1 s2
def wThaw (i : Nat) (w : WE) : WE := fun ρ P _ => match ρ[i]? with
  | some (some (.own xs)) => w (ρ.set i (some (.d (.list xs)))) (fun y => noLv y = true ∧ P y) (fun _ => False)
  | _ => False
theorem Rel.thawed {S : Hp} {ρ : Ev} {σ : L2.St} {H : Hp} {ow : List Addr} {i : Nat} {we : WE} {P : Val → Prop} {Ex : Xn → Prop} (r : Rel CL Z X.K ow0 Hb S ρ σ H ow) (g0 : Gr Z ow0 Hb) (w : wThaw i we ρ P Ex) :
    ∃ ρ' ow', Rel CL Z X.K ow0 Hb S ρ' σ H ow' ∧ we ρ' (fun y => noLv y = true ∧ P y) (fun _ => False) ∧ ∀ Q, Gd CL Z X.K ow H P Q → Gd CL Z X.K ow' H (fun y => noLv y = true ∧ P y) Q := by
  unfold wThaw at w
  split at w
  · rename_i xs hi
    obtain ⟨p, us, hp, hf, r'⟩ := r.thaw g0 hi
    refine ⟨_, _, r', w, fun Q g y v H' ⟨n, q⟩ e z hv => g y v H' q e z ?_⟩
    have back : ∀ {zs : List Addr}, ∀ a ∈ zs ++ ow, a ∈ zs ++ ow.filter (· ≠ p) ∨ ∃ us, H' a = some (.lst us) := fun {zs} a m => by
      rcases List.mem_append.mp m with m | m
      · exact .inl (List.mem_append_left _ m)
      · by_cases ea : a = p
        · exact .inr ⟨us, by rw [ea]; exact e p _ hf nt_lst hp⟩
        · exact .inl (List.mem_append_right _ (List.mem_filter.mpr ⟨m, by simpa using ea⟩))
    cases y with
    | d x => exact Dt.rehide (back (zs := [])) hv n
    | own zs =>
      obtain ⟨q, ts, rfl, nq, mq, hq, ha⟩ := hv
      refine ⟨q, ts, rfl, nq, fun m => mq (List.mem_filter.mpr ⟨m, by simpa using fun ea : q = p => nq _ nt_lst (ea ▸ hp)⟩), hq, DtAll.rehide (back (zs := [q])) ha n⟩
    | bor _ => cases n
    | bag => cases n
    | fn _ _ => cases n
  · exact w.elim
theorem sim_thaw (i : Nat) {e : Expr} {we : WE} (g0 : Gr Z ow0 Hb) (h : SimE X W Z CL ow0 Hb e we) : SimE X W Z CL ow0 Hb e (wThaw i we) := by
  intro S ρ σ H ow P Ex Q r w g b
  obtain ⟨ρ', ow', r', w', g'⟩ := r.thawed g0 w
  exact h S ρ' σ H ow' _ _ Q r' w' (g' Q g) fun x cls d H' z => z.elim
/-- name = [.. for .. in a list of ours], on one line -/
theorem sim_setLcTD (i j : Nat) {y : Str} {py : Pos} {tg iter elt : Expr} {ifs : List Expr} {scope : Scope} {own : List (Str × Nat)} {pos spos : Pos} {wi : WI} {b : WB} {is : List Nat} {tt : WT} {we : WE} (hc : X.calm = true) (hN : X.N.Nodup) (g0 : Gr Z ow0 Hb) (hi : SimI X W Z CL ow0 Hb tg iter wi) (ok : BlkOk X.N X.env.scope scope own) (his : ∀ i ∈ is, i ∈ own.map (·.2))
    (hg : InBlk X scope fun Y => SimB Y Z CL ow0 Hb tg b is) (ht : InBlk X scope fun Y => SimTs Y W0 Z CL ow0 Hb ifs tt) (he : InBlk X scope fun Y => SimE Y W0 Z CL ow0 Hb elt we)
    (hy : X.N[i]? = some y := by rfl) (hyl : X.env.scope.names.lookup y = some .local := by rfl) (hsw : swapsWith (.ListComp elt [⟨tg, iter, ifs, 0⟩] scope pos) (some (.Name y py)) spos.line X.env = pure true := by exact sw_true rfl rfl rfl (by decide +kernel))
    (hs : ∀ x, foldedSetIterable iter X.env x = pure x := by intro _; rfl) : SimS X W Z CL ow0 Hb (.Assign [.Name y py] (.ListComp elt [⟨tg, iter, ifs, 0⟩] scope pos) spos) (wSetD i (wThaw j (wLc wi b tt we (own.map (·.2))))) := by
  intro S ρ σ H ow E D r w o
  obtain ⟨ρ', ow', r', w', g'⟩ := r.thawed g0 w
  refine sim_setLcG i hc hN g0 hi ok his hg ht he hy hyl hsw hs r' w' (g' _ fun t v H' p e z q => ?_) (fun x cls d H' z => z.elim)
  dsimp only at p
  split at p
  · rename_i d ed
    exact o.nx _ _ H' ow p ((r.step e z).setD (q.kp ed))
  · exact p.elim
theorem sim_setLcT (i j : Nat) {y : Str} {py : Pos} {tg iter elt : Expr} {ifs : List Expr} {scope : Scope} {own : List (Str × Nat)} {pos spos : Pos} {wi : WI} {b : WB} {is : List Nat} {tt : WT} {we : WE} (hc : X.calm = true) (hN : X.N.Nodup) (g0 : Gr Z ow0 Hb) (hi : SimI X W Z CL ow0 Hb tg iter wi) (ok : BlkOk X.N X.env.scope scope own) (his : ∀ i ∈ is, i ∈ own.map (·.2))
    (hg : InBlk X scope fun Y => SimB Y Z CL ow0 Hb tg b is) (ht : InBlk X scope fun Y => SimTs Y W0 Z CL ow0 Hb ifs tt) (he : InBlk X scope fun Y => SimE Y W0 Z CL ow0 Hb elt we)
    (hy : X.N[i]? = some y := by rfl) (hyl : X.env.scope.names.lookup y = some .local := by rfl) (hsw : swapsWith (.ListComp elt [⟨tg, iter, ifs, 0⟩] scope pos) (some (.Name y py)) spos.line X.env = pure true := by exact sw_true rfl rfl rfl (by decide +kernel))
    (hs : ∀ x, foldedSetIterable iter X.env x = pure x := by intro _; rfl) : SimS X W Z CL ow0 Hb (.Assign [.Name y py] (.ListComp elt [⟨tg, iter, ifs, 0⟩] scope pos) spos) (wSet i (wThaw j (wLc wi b tt we (own.map (·.2))))) := by
  intro S ρ σ H ow E D r w o
  obtain ⟨ρ', ow', r', w', g'⟩ := r.thawed g0 w
  refine sim_setLcG i hc hN g0 hi ok his hg ht he hy hyl hsw hs r' w' (g' _ fun t v H' p e z q => ?_) (fun x cls d H' z => z.elim)
  dsimp only at p
  split at p
  · rename_i t' et
    have et' := slv_eq et
    subst et'
    obtain ⟨ow'', r''⟩ := r.set (i := i) e z q et
    exact o.nx _ _ H' ow'' p r''
  · exact p.elim
def wThawT (i : Nat) (w : WT) : WT := fun ρ P _ => match ρ[i]? with
  | some (some (.own xs)) => w (ρ.set i (some (.d (.list xs)))) P (fun _ => False)
  | _ => False
theorem sim_thawT (i : Nat) {e : Expr} {we : WT} (g0 : Gr Z ow0 Hb) (h : SimT X W Z CL ow0 Hb e we) : SimT X W Z CL ow0 Hb e (wThawT i we) := by
  intro S ρ σ H ow P Ex Q r w g b
  unfold wThawT at w
  split at w
  · rename_i xs hi
    obtain ⟨p, us, hp, hf, r'⟩ := r.thaw g0 hi
    exact h S _ σ H _ _ _ Q r' w g fun x cls d H' z => z.elim
  · exact w.elim
end
theorem hcl_of {cs : Clz} : ∀ c wd fs, (c, wd, fs) ∈ cs → c ∈ cs.map (·.1) := fun c wd fs h => List.mem_map.mpr ⟨(c, wd, fs), h, rfl⟩
end Pd

/-! Pd38: is None, is not None, a < b < c as tests. -/
namespace Pd
open PySem PySem.Spec PyProof.Rows L2
section
variable {X : Cx} {W : WX} {Z : Ext} {CL : Calls} {ow0 : List Addr} {Hb : Hp} {pos : Pos}
theorem sim_tisN {e : Expr} {we : WE} {j p2} (h : SimE X W Z CL ow0 Hb e we) : SimT X W Z CL ow0 Hb (.Compare e [.Is] [.Constant .none j p2] pos) (wTv (wIsN false we)) := by
  intro S ρ σ H ow P Ex Q r w g bd
  refine PTat.of (pt_cmp (pc_isN PEat.pe) rfl) (h S ρ σ H ow _ Ex _ r w (fun y v H' p e z h => ?_) bd)
  rw [h.isNon]
  rw [Bool.false_xor] at p
  exact ⟨_, rfl, g _ H' p e z⟩
theorem sim_tnotN {e : Expr} {we : WE} {j p2} (h : SimE X W Z CL ow0 Hb e we) : SimT X W Z CL ow0 Hb (.Compare e [.IsNot] [.Constant .none j p2] pos) (wTv (wIsN true we)) := by
  intro S ρ σ H ow P Ex Q r w g bd
  refine PTat.of (pt_cmp (pc_notN PEat.pe) rfl) (h S ρ σ H ow _ Ex _ r w (fun y v H' p e z h => ?_) bd)
  rw [h.isNon]
  rw [Bool.true_xor] at p
  exact ⟨_, rfl, g _ H' p e z⟩
theorem sim_tchain {a b c : Expr} {wa wb wc : WE} {o o2 : CmpOp} {op op2 : Op2} (ho : OpR X (compareOp o) (rD CL Z X.K op)) (ho2 : OpR X (compareOp o2) (rD CL Z X.K op2)) (ha : SimE X W Z CL ow0 Hb a wa) (hb : SimE X W Z CL ow0 Hb b wb) (hc : SimE X W Z CL ow0 Hb c wc)
    (hm : lastMarks [o, o2] [b, c] = false := by rfl) :
    SimT X W Z CL ow0 Hb (.Compare a [o, o2] [b, c] pos) (wTv (wChain op op2 wa wb wc)) := by
  intro S ρ σ H ow P Ex Q r w g bd
  refine PTat.of (pt_chain ho ho2 PEat.pe PEat.pe PEat.pe hm) ?_
  refine two ha hb r bd w fun x y v u H' q e z h1 h2 => ⟨ow, H, x, y, _, r.gr.step e z, h1, h2, q, fun k t H'' p' e' z' q' => ?_⟩
  cases k with
  | d k =>
    cases k with
    | bool k =>
      cases (q' : Dt X.K (hid ow H'') t (.bool k))
      refine ⟨k, rfl, ?_⟩
      cases k with
      | true =>
        refine hc S ρ σ H'' ow _ Ex _ (r.step (e.trans e') z') p' (fun y3 v3 H3 p3 e3 z3 h3 => ?_) (bd.step (e.trans e'))
        refine ⟨ow, H, y, y3, _, r.gr.step ((e.trans e').trans e3) z3, h2.stay (e'.trans e3) r.gr.fpo, h3.back (e.trans e') r.gr.fpo, p3, fun y v H4 p4 e4 z4 q4 => ?_⟩
        cases y with
        | d x =>
          cases x with
          | bool c =>
            cases (q4 : Dt X.K (hid ow H4) v (.bool c))
            exact ⟨c, rfl, g c H4 p4 (((e.trans e').trans e3).trans e4) z4⟩
          | _ => exact (p4 : False).elim
        | _ => exact (p4 : False).elim
      | false => exact ⟨false, rfl, g false H'' p' (e.trans e') z'⟩
    | _ => exact (p' : False).elim
  | _ => exact (p' : False).elim
end
end Pd

/-! Pd39: sorted({k: True for ..}), the keys whole numbers. -/
namespace Pd
open PySem PySem.Spec PyProof.Rows L2
theorem nt_dK {xs : List (L2.Key × V)} : NT (.dK xs) := fun _ z => nomatch z
theorem rz_updK {Z : Ext} {H : Hp} {p : Addr} {us : List (L2.Key × V)} {o : HO} (h : RZ Z H) (n : p ∉ fp Z) (e : H p = some (.dK us)) : RZ Z (upd H p o) := by
  refine ⟨h.bag.frame fun a m => upd_ne fun q => n (q ▸ m), fun t ht => ?_, fun p' m => ?_⟩
  rotate_left
  · rw [upd_ne (ne_of (h.fns p' m) e (by intro z; cases z))]
    exact h.fns p' m
  obtain ⟨ps, h1, h2, h3⟩ := h.tabs t ht
  refine ⟨ps, by rw [upd_ne (ne_of h1 e (by intro z; cases z))]; exact h1, h2, fun pos cv hc => ?_⟩
  obtain ⟨c, e1, e2⟩ := h3 pos cv hc
  exact ⟨c, e1, by rw [upd_ne (ne_of e2 e (by intro z; unfold LamX.CodeO at z; cases z))]; exact e2⟩
section
variable {X : Cx} {W : WX} {Z : Ext} {CL : Calls} {ow0 : List Addr} {Hb : Hp}
/-- an owned dict of no slot is written -/
theorem Rel.putD {S : Hp} {ρ : Ev} {σ : L2.St} {H : Hp} {ow : List Addr} {p : Addr} {us vs : List (L2.Key × V)} (r : Rel CL Z X.K ow0 Hb S ρ σ H ow) (hu : H p = some (.dK us)) (hp : p ∈ ow) (hf : p ∉ fp Z) (hb : New Hb p) : Rel CL Z X.K ow0 Hb S ρ σ (upd H p (.dK vs)) ow := by
  have same := hid_upd (H := H) (o := .dK vs) hp
  have sb' : SameBut (fp Z) Hb (upd H p (.dK vs)) := fun a u n t q => by
    have ne : a ≠ p := fun e => by rw [e] at q; exact hb u t q
    rw [upd_ne ne]
    exact r.sb a u n t q
  refine ⟨⟨rz_updK r.gr.ext hf hu, r.gr.fpo, fun a m => ?_⟩, r.len, sb', r.sub, by rw [same]; exact r.mark, fun i y h => ?_, r.sep⟩
  · by_cases e : a = p
    · subst e
      exact ⟨_, nt_dK, upd_same⟩
    · rw [upd_ne e]
      exact r.gr.isS a m
  · obtain ⟨u, u1, u2⟩ := r.val i y h
    refine ⟨u, u1, ?_⟩
    cases y with
    | d x => show Dt _ _ _ _; rw [same]; exact u2
    | own as =>
      obtain ⟨t, ts, rfl, t0, t1, t2, t3, t4⟩ := u2
      have ne : t ≠ p := fun e => by rw [e, hu] at t3; cases t3
      exact ⟨t, ts, rfl, t0, t1, t2, by rw [upd_ne ne]; exact t3, by rw [same]; exact t4⟩
    | bor as => exact u2
    | bag => exact u2
    | fn f φ => exact u2
theorem putK_old {kvs : List (L2.Key × V)} {k : L2.Key} (v : V) (h : k ∈ kvs.map (·.1)) : (putK kvs k v).map (·.1) = kvs.map (·.1) := by
  unfold putK
  have e : (kvs.any fun kv => decide (kv.1 = k)) = true := by
    obtain ⟨p, m, e⟩ := List.mem_map.mp h
    exact List.any_eq_true.mpr ⟨p, m, decide_eq_true e⟩
  rw [if_pos e, List.map_map]
  refine List.map_congr_left fun p _ => ?_
  show (if p.1 = k then (p.1, v) else p).1 = p.1
  split <;> rfl
theorem putK_fresh {kvs : List (L2.Key × V)} {k : L2.Key} (v : V) (h : k ∉ kvs.map (·.1)) : (putK kvs k v).map (·.1) = kvs.map (·.1) ++ [k] := by
  unfold putK
  have e : ¬ (kvs.any fun kv => decide (kv.1 = k)) = true := fun z => by
    obtain ⟨p, m, e⟩ := List.any_eq_true.mp z
    exact h (List.mem_map.mpr ⟨p, m, of_decide_eq_true e⟩)
  rw [if_neg e, List.map_append]
  rfl
def wIntE (w : WE) : WE := fun ρ P Ex => w ρ (fun y => match y.rd with
  | some (.int k) => P (.d (.int k))
  | _ => False) Ex
def wSortedKeys (wi : WI) (b : WB) (tt : WT) (wk : WE) (vs : List Nat) : WE := fun ρ P Ex => wi ρ (fun ds => lcW b tt (wIntE wk) (wipeE ρ vs) (fun acc => acc.length < 64 ∧ ∀ ns out : List Int, acc = ns.map .int → out.Pairwise (· < ·) → (∀ k, k ∈ out ↔ k ∈ ns) → P (.own (out.map .int))) ds []) Ex
/-- a dict whose keys are these numbers -/
def KeysOf (kvs : List (L2.Key × V)) (acc : List D) : Prop := ∃ ns ks : List Int, acc = ns.map .int ∧ kvs.map (·.1) = ks.map Sum.inl ∧ ks.Nodup ∧ (∀ k, k ∈ ks ↔ k ∈ ns) ∧ ks.length ≤ ns.length
theorem KeysOf.put {kvs : List (L2.Key × V)} {acc : List D} (h : KeysOf kvs acc) (k : Int) (v : V) : KeysOf (putK kvs (.inl k) v) (acc ++ [.int k]) := by
  obtain ⟨ns, ks, e1, e2, nd, hm, hl⟩ := h
  have mem : (Sum.inl k : L2.Key) ∈ kvs.map (·.1) ↔ k ∈ ks := by
    rw [e2, List.mem_map]
    exact ⟨fun ⟨a, m, e⟩ => by cases e; exact m, fun m => ⟨k, m, rfl⟩⟩
  by_cases h : k ∈ ks
  · refine ⟨ns ++ [k], ks, by rw [e1]; simp, by rw [putK_old _ (mem.mpr h)]; exact e2, nd, fun j => ?_, by rw [List.length_append]; omega⟩
    rw [List.mem_append, List.mem_singleton, ← hm]
    exact ⟨.inl, fun z => z.elim id fun e => e ▸ h⟩
  · refine ⟨ns ++ [k], ks ++ [k], by rw [e1]; simp, by rw [putK_fresh _ (fun z => h (mem.mp z)), e2, List.map_append]; rfl, ?_, fun j => ?_, by simp only [List.length_append, List.length_cons, List.length_nil]; omega⟩
    · exact List.nodup_append.mpr ⟨nd, List.pairwise_singleton _ _, fun a ma b mb e => by rw [List.mem_singleton.mp mb] at e; exact h (e ▸ ma)⟩
    · rw [List.mem_append, List.mem_append, hm]
theorem dk_sound {tg iter kx vx : Expr} {ifs : List Expr} {scope : Scope} {wi : WI} {b : WB} {is : List Nat} {tt : WT} {wk : WE} {vs : List Nat} (hi : SimI X W Z CL ow0 Hb tg iter wi) (his : ∀ i ∈ is, i ∈ vs)
    (g0 : Gr Z ow0 Hb)
    {g : TG} {t : TT} {tk tv : TE}
    (hg : ∀ {S : Hp} {ρ : Ev} {σ : L2.St} {H : Hp} {ow : List Addr} {d : D} {v : V} {k : Ev → Prop} {Q : L2.St → Hp → Prop}, Rel CL Z X.K ow0 Hb S ρ σ H ow → Dt X.K (hid ow H) v d → b ρ d k → (∀ ρ' σ', k ρ' → Rel CL Z X.K ow0 Hb S ρ' σ' H ow → OnlyE is ρ σ ρ' σ' → Q σ' H) → g v σ H Q)
    (ht : ∀ {S : Hp} {ρ : Ev} {σ : L2.St} {H : Hp} {ow : List Addr} {P : Bool → Prop} {Q : Bool → Hp → Prop}, Rel CL Z X.K ow0 Hb S ρ σ H ow → tt ρ P (fun _ => False) → GdT Z H P Q → t σ H Q)
    (he : ∀ {S : Hp} {ρ : Ev} {σ : L2.St} {H : Hp} {ow : List Addr} {P : Val → Prop} {Q : VK}, Rel CL Z X.K ow0 Hb S ρ σ H ow → wk ρ P (fun _ => False) → Gd CL Z X.K ow H P Q → tk σ H Q)
    (hv : ∀ {σ : L2.St} {H : Hp} {Q : VK}, Q (.bl true) H → tv σ H Q)
    {S : Hp} {ρ : Ev} {σ : L2.St} {H : Hp} {ow : List Addr} {P : Val → Prop} {Ex : Xn → Prop} {Q : VK} (r : Rel CL Z X.K ow0 Hb S ρ σ H ow) (w : wSortedKeys wi b tt wk vs ρ P Ex) (gd : Gd CL Z X.K ow H P Q) (bd : Bd Z X.K ow X.mg W σ H Ex) :
    tDc (fun σ H R => PIat X tg iter σ H fun J H' => Held X H' → R J H') g t tk tv vs σ H fun x H => ∃ (a : Addr) (kvs : List (L2.Key × V)) (ks : List Int), [x] = [V.ref a] ∧ Rd H a (.dK kvs) ∧ kvs.map (·.1) = ks.map Sum.inl ∧ ks.length < 64 ∧
      ∀ (ys : List Int) (p : Addr), ys.Perm ks → ys.Pairwise (· ≤ ·) → H p = none → Q (.ref p) (upd H p (.lst (ys.map V.int))) := by
  refine hi S ρ σ H ow _ _ _ r w (fun ds J H1 p e z hJ hlen => fun hh => ?_) bd
  intro L hL
  have hsz := hlen hh
  have r1 := (r.step e z).remark (S' := hid ow H1) (.refl _)
  have hLz : L ∉ fp Z := fun m => r1.gr.no (.of hL) (r1.gr.fpo L m)
  have hLb : New Hb L := r1.sb.free hLz (.of hL)
  have hLow : L ∉ ow := r1.gr.no (.of hL)
  have r2 : Rel CL Z X.K ow0 Hb (hid ow H1) ρ σ (upd H1 L (.dK [])) (L :: ow) := r1.more (SameBut.new hL) (z.le (Le.new hL)) (.of hL) ⟨_, nt_dK, upd_same⟩
  -- between two turns
  refine ⟨fun i m H => m = ds.length - i ∧ i ≤ ds.length ∧ ∃ acc us, lcW b tt (wIntE wk) (wipeE ρ vs) (fun acc => acc.length < 64 ∧ ∀ ns out : List Int, acc = ns.map .int → out.Pairwise (· < ·) → (∀ k, k ∈ out ↔ k ∈ ns) → P (.own (out.map .int))) (ds.drop i) acc ∧ acc.length ≤ i ∧ H L = some (.dK us) ∧ KeysOf us acc ∧ Rel CL Z X.K ow0 Hb (hid ow H1) ρ σ H (L :: ow) ∧ SameBut (fp Z) H1 H, ⟨ds.length, by simp, Nat.zero_le _, [], [], p, Nat.le_refl _, upd_same, ⟨[], [], rfl, rfl, .nil, fun _ => Iff.rfl, Nat.le_refl _⟩, r2, SameBut.new hL⟩, ?_⟩
  rintro i m H2 ⟨rfl, hi2, acc, us, p2, hacc, hL2, ha2, r3, sb2⟩
  have le : Le (hid ow H1) H2 := r3.mark.trans hid_le
  by_cases hlt : i < ds.length
  · refine .inr ⟨hJ.go i H2 le hlt, fun H => ∃ acc us, lcW b tt (wIntE wk) (wipeE ρ vs) (fun acc => acc.length < 64 ∧ ∀ ns out : List Int, acc = ns.map .int → out.Pairwise (· < ·) → (∀ k, k ∈ out ↔ k ∈ ns) → P (.own (out.map .int))) (ds.drop (i + 1)) acc ∧ acc.length ≤ i + 1 ∧ H L = some (.dK us) ∧ KeysOf us acc ∧ Rel CL Z X.K ow0 Hb (hid ow H1) ρ σ H (L :: ow) ∧ SameBut (fp Z) H1 H, fun H' q => ⟨ds.length - (i + 1), by omega, rfl, hlt, q⟩, fun x H' y => ?_⟩
    have hd : ds[i]? = some ds[i] := by simp [hlt]
    obtain ⟨l1, l2⟩ := hJ.yld i H2 x H' (L :: ow) _ r3.gr.isS r3.mark hd y
    rw [List.drop_eq_getElem_cons hlt] at p2
    have r4 := r3.step (.of_le l1) (r3.gr.ext.le l1)
    refine hg (r4.wiped vs) l2 p2 fun ρ5 σ5 p5 r5 o5 => ⟨by rw [(o5.1.mono his).wipe, wipe_wipe], ?_⟩
    refine ht r5 p5 fun c H6 p6 e6 z6 => ?_
    have r6 := r4.step e6 z6
    have hL6 : H6 L = some (.dK us) := e6 L _ hLz nt_dK (l1 _ _ hL2)
    have sb6 : SameBut (fp Z) H1 H6 := sb2.trans ((SameBut.of_le l1).trans e6)
    cases c with
    | false =>
      rw [if_neg (by decide)] at p6 ⊢
      exact ⟨acc, us, p6, Nat.le_succ_of_le hacc, hL6, ha2, r6, sb6⟩
    | true =>
      rw [if_pos rfl] at p6 ⊢
      refine he (r5.step e6 z6) p6 fun v y H7 p7 e7 z7 q7 => ?_
      split at p7
      · rename_i k ed
        have ev := q7.int ed
        subst ev
        refine hv ?_
        have hL7 : H7 L = some (.dK us) := e7 L _ hLz nt_dK hL6
        have r7 := r6.step e7 z7
        obtain ⟨ns, ks, f1, f2, f3, f4, f5⟩ := ha2
        have ul : us.length ≤ i := by
          have := congrArg List.length f2
          rw [List.length_map, List.length_map] at this
          have := congrArg List.length f1
          rw [List.length_map] at this
          omega
        refine ⟨us, .inl k, rfl, hL7, by omega, acc ++ [PyData.int k], putK us (.inl k) (.bl true), p7, by simp; omega, upd_same, KeysOf.put ⟨ns, ks, f1, f2, f3, f4, f5⟩ k _, ?_, fun a u n t q => ?_⟩
        · exact r7.putD hL7 List.mem_cons_self hLz hLb
        · have ne : a ≠ L := fun e => by rw [e, hL] at q; cases q
          rw [upd_ne ne]
          exact e7 a u n t (sb6 a u n t q)
      · exact p7.elim
  · have ei : i = ds.length := by omega
    subst ei
    rw [List.drop_length] at p2
    refine .inl ⟨hJ.stop H2 le, ?_⟩
    obtain ⟨ns, ks, f1, f2, f3, f4, f5⟩ := ha2
    obtain ⟨p2l, p2⟩ := p2
    have al : acc.length = ns.length := by rw [f1, List.length_map]
    refine ⟨L, us, ks, rfl, .of hL2, f2, by omega, fun ys q hp hs hq => ?_⟩
    have hnd : ys.Pairwise (· ≠ ·) := hp.nodup_iff.mpr f3
    have lt : ys.Pairwise (· < ·) := (hs.and hnd).imp fun {a b} z => by have := z.1; have := z.2; omega
    have pq := p2 ns ys f1 lt fun k => (hp.mem_iff).trans (f4 k)
    have hqz : q ∉ fp Z := fun m => r3.gr.no (.of hq) (r3.gr.fpo q m)
    have hqo : q ∉ ow := fun m => r3.gr.no (.of hq) (List.mem_cons_of_mem _ m)
    have sbq : SameBut (fp Z) H (upd H2 q (.lst (ys.map V.int))) := (e.trans sb2).trans (SameBut.new hq)
    refine gd (.own (ys.map .int)) _ _ pq sbq (r3.gr.ext.le (Le.new hq)) ⟨q, ys.map V.int, rfl, (e.trans sb2).free hqz (.of hq), hqo, upd_same, DtAll.ofInts ys⟩
theorem sim_sortedKeys {tg iter kx : Expr} {ifs : List Expr} {scope : Scope} {own : List (Str × Nat)} {p pos pos' : Pos} {jv pv} {wi : WI} {b : WB} {is : List Nat} {tt : WT} {wk : WE} (hc : X.calm = true) (hN : X.N.Nodup) (g0 : Gr Z ow0 Hb) (hgl : Gl X "sorted") (hm : X.mg "sorted" = none) (hi : SimI X W Z CL ow0 Hb tg iter wi) (ok : BlkOk X.N X.env.scope scope own) (his : ∀ i ∈ is, i ∈ own.map (·.2))
    (hg : InBlk X scope fun Y => SimB Y Z CL ow0 Hb tg b is) (ht : InBlk X scope fun Y => SimTs Y W0 Z CL ow0 Hb ifs tt) (he : InBlk X scope fun Y => SimE Y W0 Z CL ow0 Hb kx wk)
    (hs : ∀ x, foldedSetIterable iter X.env x = pure x := by intro _; rfl)
    (hst : starEach [.DictComp kx (.Constant (.bool true) jv pv) [⟨tg, iter, ifs, 0⟩] scope pos'] X.env = (false, eval (.DictComp kx (.Constant (.bool true) jv pv) [⟨tg, iter, ifs, 0⟩] scope pos') X.env) :: starEach [] X.env := by rfl)
    (hpl : (backTo pos (starEach [] X.env)).any (·.1) = false := by rfl) :
    SimE X W Z CL ow0 Hb (.Call (.Name "sorted" p) [.DictComp kx (.Constant (.bool true) jv pv) [⟨tg, iter, ifs, 0⟩] scope pos'] [] pos) (wSortedKeys wi b tt wk (own.map (·.2))) := by
  intro S ρ σ H ow P Ex Q r w g bd
  have dc := pe_dc (X := X) (kx := kx) (vx := .Constant (.bool true) jv pv) (pos := pos') (g := fun v σ H Q => InBlk X scope fun Y => PGat Y tg v σ H Q) (tt := fun σ H Q => InBlk X scope fun Y => PTsat Y ifs σ H Q) (tk := fun σ H Q => InBlk X scope fun Y => PEat Y kx σ H Q) (tv := fun σ H Q => Q (.bl true) H) hc hN PIat.pi ok (fun s H C cl fp => ⟨fun pins s' σ H' v u Q I rv h => (h s H C cl fp).go pins s' u I rv⟩) (fun s H C cl fp => ⟨fun pins s' σ H' Q I h => (h s H C cl fp).go pins s' I⟩) (fun s H C cl fp => ⟨fun pins s' σ H' Q I h => (h s H C cl fp).go pins s' I⟩) (fun s H C cl fp => pe_bl) hs
  refine PEat.of (pe_callB (call_sortedDI hc) hgl hm PyProof.Rows.boot_sorted (pa_cons dc pa_nil hst) (by decide) (by decide) hst hpl) ?_
  refine dk_sound (X := X) (W := W) (Z := Z) (CL := CL) (ow0 := ow0) (Hb := Hb) (kx := kx) (vx := .Constant (.bool true) jv pv) (ifs := ifs) (scope := scope) (g := fun v σ H Q => InBlk X scope fun Y => PGat Y tg v σ H Q) (t := fun σ H Q => InBlk X scope fun Y => PTsat Y ifs σ H Q) (tk := fun σ H Q => InBlk X scope fun Y => PEat Y kx σ H Q) (tv := fun σ H Q => Q (.bl true) H) hi his g0 (fun r h w g s H C cl fp => ?_) (fun r w g s H C cl fp => ?_) (fun r w g s H C cl fp => ?_) (fun h => h) r w g bd
  · exact hg s H C cl fp _ _ _ _ _ _ _ _ _ r h w g
  · exact ht s H C cl fp _ _ _ _ _ _ _ _ r w g fun _ _ _ _ z => z.elim
  · exact he s H C cl fp _ _ _ _ _ _ _ _ r w g fun _ _ _ _ z => z.elim
end
end Pd

/-! Ph1: harps as data; promises of the defs about harps, and of the drawing helpers. -/
namespace Pd
open PySem PySem.Spec PyProof.Rows L2
def isNum (x : D) : Bool := isIntD x && !isBoolD x
def Φ_is_number : Fs := fun ys P _ => ∃ x, ys = [.d x] ∧ P (.d (.bool (isNum x)))
def isIndex : D → Bool
  | .int i => decide (0 ≤ i)
  | _ => false
def Φ_is_index : Fs := fun ys P _ => ∃ x, ys = [.d x] ∧ P (.d (.bool (isIndex x)))
def isSized (m : Int) : D → Bool
  | .tuple ds => decide ((ds.length : Int) = m)
  | _ => false
def Φ_is_sized : Fs := fun ys P _ => ∃ x, ∃ m : Int, ys = [.d x, .d (.int m)] ∧ P (.d (.bool (isSized m x)))
def isPos : D → Bool
  | .int i => decide (-1 ≤ i) && decide (i ≤ 1)
  | _ => false
def Φ_is_position : Fs := fun ys P _ => ∃ x, ys = [.d x] ∧ P (.d (.bool (isPos x)))
def Φ_is_tuple_of : Fs := fun ys P _ => ∃ x f φ, ys = [.d x, .fn f φ] ∧ ((∃ ds g, x = .tuple ds ∧ (∀ d ∈ ds, ∀ R : D → Prop, R (.bool (g d)) → φ d R) ∧ P (.d (.bool (ds.all g)))) ∨ (isTupleD x = false ∧ P (.d (.bool false))))
def allPos : D → Bool
  | .tuple ds => ds.all isPos
  | _ => false
def Φ_is_setting : Fs := fun ys P _ => ∃ x, ∃ m : Int, ys = [.d (.int m), .d x] ∧ P (.d (.bool (isSized m x && allPos x)))
/-- a harp: its size, its letters (name, base, foot), its strings -/
structure Hrp where
  sz : Int
  rows : List (Str × Int × Int)
  n : Int
  a : Int
  b : Int
def rowD (r : Str × Int × Int) : D := .tuple [.str r.1, .int r.2.1, .int r.2.2]
def Hrp.d (h : Hrp) : D := .tuple [.int h.sz, .tuple (h.rows.map rowD), .int h.n, .int h.a, .int h.b]
structure Hrp.Ok (h : Hrp) : Prop where
  sz0 : 1 ≤ h.sz
  sz1 : h.sz ≤ 1000
  len0 : 2 ≤ h.rows.length
  len1 : h.rows.length ≤ 12
  n0 : 1 ≤ h.n
  n1 : h.n ≤ 100
  base : ∀ r ∈ h.rows, 0 ≤ r.2.1 ∧ r.2.1 ≤ 1000
  foot : ∀ r ∈ h.rows, 0 ≤ r.2.2 ∧ r.2.2 ≤ 1
  name : ∀ r ∈ h.rows, r.1.length ≤ 10 ∧ PyData.strOk r.1 = true
def Hrp.L (h : Hrp) : Int := h.rows.length
def Hrp.row (h : Hrp) (i : Int) : Str × Int × Int := h.rows.getD i.toNat default
def Hrp.opn (h : Hrp) (i : Int) : Int := h.sz * (i / h.L) + (h.row (i % h.L)).2.1
def Hrp.pit (h : Hrp) (ps : List Int) (i : Int) : Int := h.opn i + ps.getD (i % h.L).toNat 0
def Hrp.text (h : Hrp) (i : Int) : Str := (h.row (i % h.L)).1 ++ (Str.ofString "." ++ Str.ofString (toString (i / h.L)))
def inIx (x : D) (n : Int) : Bool := match x with
  | .int i => decide (0 ≤ i) && decide (i < n)
  | _ => false
def noth : Xn := ⟨"Nothing", []⟩
def Φ_letters_many : Fs := fun ys P _ => ∃ h : Hrp, h.Ok ∧ ys = [.d h.d] ∧ P (.d (.int h.L))
def Φ_check_string : Fs := fun ys P Ex => ∃ h : Hrp, ∃ x, h.Ok ∧ ys = [.d h.d, .d x] ∧ ((inIx x h.n = true ∧ P (.d .none)) ∨ (inIx x h.n = false ∧ Ex noth))
def Φ_check_letter : Fs := fun ys P Ex => ∃ h : Hrp, ∃ x, h.Ok ∧ ys = [.d h.d, .d x] ∧ ((inIx x h.L = true ∧ P (.d .none)) ∨ (inIx x h.L = false ∧ Ex noth))
def Φ_letter_of : Fs := fun ys P Ex => ∃ h : Hrp, ∃ x, h.Ok ∧ ys = [.d h.d, .d x] ∧ ((∃ i, x = .int i ∧ 0 ≤ i ∧ i < h.n ∧ P (.d (.int (i % h.L)))) ∨ (inIx x h.n = false ∧ Ex noth))
def Φ_open_pitch : Fs := fun ys P Ex => ∃ h : Hrp, ∃ x, h.Ok ∧ ys = [.d h.d, .d x] ∧ ((∃ i, x = .int i ∧ 0 ≤ i ∧ i < h.n ∧ P (.d (.int (h.opn i)))) ∨ (inIx x h.n = false ∧ Ex noth))
def isSet (h : Hrp) (ps : List Int) : Prop := ps.length = h.rows.length ∧ ∀ p ∈ ps, -1 ≤ p ∧ p ≤ 1
def Φ_pitch_of : Fs := fun ys P Ex => ∃ h : Hrp, ∃ s x, h.Ok ∧ ys = [.d h.d, .d s, .d x] ∧ (((isSized h.L s && allPos s) = false ∧ Ex noth) ∨ (∃ ps : List Int, s = .tuple (ps.map .int) ∧ isSet h ps ∧ ((∃ i, x = .int i ∧ 0 ≤ i ∧ i < h.n ∧ P (.d (.int (h.pit ps i)))) ∨ (inIx x h.n = false ∧ Ex noth))))
def Φ_pitches_of : Fs := fun ys P _ => ∃ h : Hrp, ∃ ps : List Int, h.Ok ∧ isSet h ps ∧ ys = [.d h.d, .d (.tuple (ps.map .int))] ∧ P (.d (.tuple ((upto h.n).map fun i => .int (h.pit ps i))))
def Hrp.strs (h : Hrp) (l : Int) : List Int := (upto h.n).filter fun i => decide (i % h.L = l)
def Φ_strings_of : Fs := fun ys P Ex => ∃ h : Hrp, ∃ x, h.Ok ∧ ys = [.d h.d, .d x] ∧ ((∃ l, x = .int l ∧ 0 ≤ l ∧ l < h.L ∧ P (.d (.tuple ((h.strs l).map .int)))) ∨ (inIx x h.L = false ∧ Ex noth))
def Φ_foot_of : Fs := fun ys P Ex => ∃ h : Hrp, ∃ x, h.Ok ∧ ys = [.d h.d, .d x] ∧ ((∃ l, x = .int l ∧ 0 ≤ l ∧ l < h.L ∧ P (.d (.int (h.row l).2.2))) ∨ (inIx x h.L = false ∧ Ex noth))
def Hrp.feet (h : Hrp) (f : Int) : List Int := (upto h.L).filter fun l => decide ((h.row l).2.2 = f)
def Φ_letters_of_foot : Fs := fun ys P _ => ∃ h : Hrp, ∃ f, h.Ok ∧ ys = [.d h.d, .d (.int f)] ∧ P (.d (.tuple ((h.feet f).map .int)))
def Φ_string_text : Fs := fun ys P Ex => ∃ h : Hrp, ∃ x, h.Ok ∧ ys = [.d h.d, .d x] ∧ ((∃ i, x = .int i ∧ 0 ≤ i ∧ i < h.n ∧ P (.d (.str (h.text i)))) ∨ (inIx x h.n = false ∧ Ex noth))
def ixD : Option Int → D
  | some i => .int i
  | none => .none
def Hrp.texts (h : Hrp) : List Str := (upto h.n).map h.text
def Hrp.names (h : Hrp) : List Str := h.rows.map (·.1)
def Φ_string_named : Fs := fun ys P _ => ∃ h : Hrp, ∃ w : Str, h.Ok ∧ ys = [.d h.d, .d (.str w)] ∧ P (.d (ixD ((upto h.n).find? fun i => h.text i == w)))
def Φ_letter_named : Fs := fun ys P _ => ∃ h : Hrp, ∃ w : Str, h.Ok ∧ ys = [.d h.d, .d (.str w)] ∧ P (.d (ixD ((upto h.L).find? fun i => (h.row i).1 == w)))
def Φ_pitch_class : Fs := fun ys P _ => ∃ h : Hrp, ∃ p : Int, h.Ok ∧ ys = [.d h.d, .d (.int p)] ∧ P (.d (.int (p % h.sz)))
def Φ_straight : Fs := fun ys P _ => ∃ h : Hrp, h.Ok ∧ ys = [.d h.d] ∧ P (.d (.tuple (List.replicate h.rows.length (.int 0))))
/-- all settings of so many letters, in order -/
def sets : Nat → List (List Int)
  | 0 => [[]]
  | n + 1 => (sets n).flatMap fun r => [r ++ [-1], r ++ [0], r ++ [1]]
def setsD (n : Nat) : D := .list ((sets n).map fun r => .tuple (r.map .int))
def Φ_settings : Fs := fun ys P _ => ∃ h : Hrp, h.Ok ∧ h.rows.length ≤ 4 ∧ ys = [.d h.d] ∧ P (.d (setsD h.rows.length))
def Φ__law_take : Fs := fun ys P _ => ∃ m : Int, ys = [.bag, .d (.int m)] ∧ 0 < m ∧ m < 1073741824 ∧ ∀ v, 0 ≤ v → v < m → P (.d (.int v))
def Φ__law_some : Fs := fun ys P _ => ∃ xs : List D, ys = [.bag, .d (.list xs)] ∧ xs ≠ [] ∧ xs.length < 1073741824 ∧ ∀ x ∈ xs, P (.d x)
def Φ__law_mixed : Fs := fun ys P _ => ∃ xs : List D, ys = [.bag, .d (.list xs)] ∧ xs.length < 1000000 ∧ ∀ zs : List D, zs.Perm xs → P (.own zs)
def Φ__law_alike : Fs := fun ys P _ => ∃ a : D, ys = [.d a, .d a] ∧ (∃ n k, n ≤ 2 ^ 20 ∧ k ≤ 99 ∧ Sm n k a) ∧ P (.d (.bool true))
def nameS : List Str := ["ce", "de", "eh", "ef", "ge", "ah", "bee", "hand", "lefty"]
/-- a drawn harp -/
structure Hrp.Drawn (h : Hrp) (m s : Int) : Prop where
  ok : h.Ok
  sz : h.sz ≤ 12
  len : (h.rows.length : Int) ≤ m
  n : h.n ≤ s
  asc : (h.rows.map fun r => r.2.1).Pairwise (· < ·)
  top : ∀ r ∈ h.rows, r.2.1 < h.sz
  nod : (h.rows.map (·.1)).Nodup
  nms : ∀ r ∈ h.rows, r.1 ∈ nameS
  a0 : 1 ≤ h.a
  a1 : h.a ≤ 3
  b0 : 0 ≤ h.b
  b1 : h.b ≤ 8
def Φ__law_harp : Fs := fun ys P _ => ∃ m s : Int, ys = [.bag, .d (.int m), .d (.int s)] ∧ 2 ≤ m ∧ m ≤ 5 ∧ 1 ≤ s ∧ s ≤ 100 ∧ ∀ h : Hrp, h.Drawn m s → P (.d h.d)
def Φ__law_letter : Fs := fun ys P _ => ∃ h : Hrp, ∃ i : Int, h.Ok ∧ ys = [.d h.d, .d (.int i)] ∧ 0 ≤ i ∧ i < h.n ∧ P (.d (.int (i % h.L)))
def Φ__law_open : Fs := fun ys P _ => ∃ h : Hrp, ∃ i : Int, h.Ok ∧ ys = [.d h.d, .d (.int i)] ∧ 0 ≤ i ∧ i < h.n ∧ P (.d (.int (h.opn i)))
def Φ__law_pitch : Fs := fun ys P _ => ∃ h : Hrp, ∃ ps : List Int, ∃ i : Int, h.Ok ∧ isSet h ps ∧ ys = [.d h.d, .d (.tuple (ps.map .int)), .d (.int i)] ∧ 0 ≤ i ∧ i < h.n ∧ P (.d (.int (h.pit ps i)))
def Φ__law_settings : Fs := fun ys P _ => ∃ h : Hrp, h.Ok ∧ h.rows.length ≤ 4 ∧ ys = [.d h.d] ∧ P (.d (setsD h.rows.length))
def Φ__law_setting : Fs := fun ys P _ => ∃ h : Hrp, h.Ok ∧ ys = [.bag, .d h.d] ∧ ∀ ps, isSet h ps → P (.d (.tuple (ps.map .int)))
def Φ__law_string_texts : Fs := fun ys P _ => ∃ h : Hrp, h.Ok ∧ ys = [.d h.d] ∧ P (.d (.list (h.texts.map .str)))
def φ_is_position : Fn1 := fun d R => R (.bool (isPos d))
theorem φ_is_position_ok : ∀ d R, φ_is_position d R → Φ_is_position [.d d] (fun y => match y with
  | .d x => R x
  | _ => False) (fun _ => False) := fun d R h => ⟨d, rfl, h⟩
section
variable {E : En} {H : Hrp} {ps : List Int} {i : Int}
theorem inIx_true {x : D} {n : Int} (h : inIx x n = true) : ∃ i, x = .int i ∧ 0 ≤ i ∧ i < n := by
  cases x with
  | int i =>
    simp only [inIx, Bool.and_eq_true, decide_eq_true_eq] at h
    exact ⟨i, rfl, h.1, h.2⟩
  | _ => cases h
theorem inIx_int {i n : Int} (h0 : 0 ≤ i) (h1 : i < n) : inIx (.int i) n = true := by simp [inIx, h0, h1]
theorem inIx_false {x : D} {n : Int} (h : inIx x n = false) : isIndex x = false ∨ ∃ i, x = .int i ∧ 0 ≤ i ∧ n ≤ i := by
  cases x with
  | int i =>
    by_cases h0 : 0 ≤ i
    · refine .inr ⟨i, rfl, h0, ?_⟩
      simp only [inIx, h0, decide_true, Bool.true_and, decide_eq_false_iff_not] at h
      omega
    · exact .inl (by simp [isIndex, h0])
  | _ => exact .inl rfl
theorem isIndex_int {i : Int} (h : 0 ≤ i) : isIndex (.int i) = true := by simp [isIndex, h]
theorem Hrp.Ok.L0 {h : Hrp} (ok : h.Ok) : 2 ≤ h.L := by have := ok.len0; unfold Hrp.L; omega
theorem Hrp.Ok.L1 {h : Hrp} (ok : h.Ok) : h.L ≤ 12 := by have := ok.len1; unfold Hrp.L; omega
theorem Hrp.Ok.md0 {h : Hrp} (ok : h.Ok) (i : Int) : 0 ≤ i % h.L := Int.emod_nonneg _ (by have := ok.L0; omega)
theorem Hrp.Ok.md1 {h : Hrp} (ok : h.Ok) (i : Int) : i % h.L < h.L := Int.emod_lt_of_pos _ (by have := ok.L0; omega)
theorem Hrp.at_ {h : Hrp} {j : Int} (h0 : 0 ≤ j) (h1 : j < h.L) : atI (h.rows.map rowD) j = some (rowD (h.row j)) := atI_map h0 h1
theorem Hrp.row_mem {h : Hrp} {j : Int} (h0 : 0 ≤ j) (h1 : j < h.L) : h.row j ∈ h.rows := by
  unfold Hrp.L at h1
  have h3 : j.toNat < h.rows.length := by omega
  unfold Hrp.row
  have e : h.rows.getD j.toNat default = h.rows[j.toNat] := by simp [List.getD, h3]
  rw [e]
  exact List.getElem_mem h3
theorem ix_row {H : Hrp} {j : Int} {P : Val → Prop} (h0 : 0 ≤ j) (h1 : j < H.L) (h : P (.d (rowD (H.row j)))) : opIx (.d (.tuple (H.rows.map rowD))) (.d (.int j)) P := by
  show match atI (H.rows.map rowD) j with
    | some d => P (.d d)
    | none => False
  rw [Hrp.at_ h0 h1]
  exact h
theorem ix_rows {H : Hrp} {P : Val → Prop} (h : P (.d (.tuple (H.rows.map rowD)))) : opIx (.d H.d) (.d (.int 1)) P := h
theorem isSized_set {H : Hrp} {ps : List Int} (s : isSet H ps) : (isSized H.L (.tuple (ps.map .int)) && allPos (.tuple (ps.map .int))) = true := by
  have e : ((ps.map PyData.int).length : Int) = H.L := by rw [List.length_map, s.1]; rfl
  simp only [isSized, allPos, e, decide_true, Bool.true_and, List.all_map, List.all_eq_true, Function.comp]
  intro p hp
  have := s.2 p hp
  simp [isPos, this.1, this.2]
theorem ix_set {H : Hrp} {ps : List Int} {j : Int} {P : Val → Prop} (s : isSet H ps) (h0 : 0 ≤ j) (h1 : j < H.L) (h : P (.d (.int (ps.getD j.toNat 0)))) : opIx (.d (.tuple (ps.map .int))) (.d (.int j)) P := by
  show match atI (ps.map PyData.int) j with
    | some d => P (.d d)
    | none => False
  have hj : j < ps.length := by rw [s.1]; exact h1
  have e : atI (ps.map PyData.int) j = some (.int (ps.getD j.toNat 0)) := by
    unfold atI ixN
    have h2 : j < ((ps.map PyData.int).length : Int) := by rw [List.length_map]; exact hj
    rw [if_pos h0, if_pos h2]
    have h3 : j.toNat < ps.length := by omega
    simp [List.getD, h3]
  rw [e]
  exact h
theorem flat_one (n : Nat) (d : D) : (List.replicate n [d]).flatten = List.replicate n d := by
  induction n with
  | zero => rfl
  | succ n ih => rw [List.replicate_succ, List.flatten_cons, ih, List.replicate_succ]; rfl
theorem rg_step {a b c : Int} (ha : 0 ≤ a) (ha1 : a ≤ 1000) (hb : 0 ≤ b) (hb1 : b ≤ 1000) (hc : 1 ≤ c) (hc1 : c ≤ 12) : RgC a b c (if a < b then ((b - a - 1) / c + 1).toNat else 0) := by
  have hs : Builtin.Range.rangeSize a b c = ((if a < b then ((b - a - 1) / c + 1).toNat else 0 : Nat) : Int) := by
    unfold Builtin.Range.rangeSize
    rw [if_pos (by omega)]
    split
    · have := Int.ediv_nonneg (show 0 ≤ b - a - 1 by omega) (show 0 ≤ c by omega)
      omega
    · rfl
  have hd : a < b → 0 ≤ (b - a - 1) / c ∧ (b - a - 1) / c ≤ 1000 := fun h => by
    refine ⟨Int.ediv_nonneg (by omega) (by omega), ?_⟩
    have := Int.ediv_le_self c (show 0 ≤ b - a - 1 by omega)
    omega
  refine ⟨by omega, by omega, ?_, hs⟩
  unfold Builtin.Range.small
  rw [hs]
  simp only [Builtin.Range.rangeFitsLong, Bool.and_eq_true, Bool.or_eq_true, decide_eq_true_eq, beq_iff_eq, show c > 0 by omega, if_true]
  split
  · have := hd (by assumption)
    have h12 : c = 1 ∨ c = 2 ∨ c = 3 ∨ c = 4 ∨ c = 5 ∨ c = 6 ∨ c = 7 ∨ c = 8 ∨ c = 9 ∨ c = 10 ∨ c = 11 ∨ c = 12 := by omega
    rcases h12 with rfl | rfl | rfl | rfl | rfl | rfl | rfl | rfl | rfl | rfl | rfl | rfl <;> omega
  · omega
theorem stepD_succ (i c : Int) (n : Nat) : stepD i c (n + 1) = stepD i c n ++ [.int (i + n * c)] := by
  unfold stepD
  rw [List.range_succ, List.map_append]
  rfl
theorem strs_step {L l : Int} (h0 : 0 ≤ l) (h1 : l < L) (hL : L ≤ 12) (hL0 : 2 ≤ L) : ∀ n : Nat, stepD l L (if l < (n : Int) then (((n : Int) - l - 1) / L + 1).toNat else 0) = ((upto n).filter fun i => decide (i % L = l)).map .int
  | 0 => by
    rw [if_neg (by omega)]
    rfl
  | n + 1 => by
    have ih := strs_step h0 h1 hL hL0 n
    have e : (((n + 1 : Nat) : Int)) = (n : Int) + 1 := by omega
    rw [e, upto_succ, List.filter_append, List.map_append, ← ih]
    have key : ((n : Int) % L = l → (if l < (n : Int) + 1 then (((n : Int) + 1 - l - 1) / L + 1).toNat else 0) = (if l < (n : Int) then (((n : Int) - l - 1) / L + 1).toNat else 0) + 1 ∧ l + ((if l < (n : Int) then (((n : Int) - l - 1) / L + 1).toNat else 0 : Nat) : Int) * L = n) ∧
      ((n : Int) % L ≠ l → (if l < (n : Int) + 1 then (((n : Int) + 1 - l - 1) / L + 1).toNat else 0) = (if l < (n : Int) then (((n : Int) - l - 1) / L + 1).toNat else 0)) := by
      have h12 : L = 2 ∨ L = 3 ∨ L = 4 ∨ L = 5 ∨ L = 6 ∨ L = 7 ∨ L = 8 ∨ L = 9 ∨ L = 10 ∨ L = 11 ∨ L = 12 := by omega
      rcases h12 with rfl | rfl | rfl | rfl | rfl | rfl | rfl | rfl | rfl | rfl | rfl <;> (constructor <;> intro hm <;> split <;> split <;> omega)
    by_cases hm : (n : Int) % L = l
    · rw [(key.1 hm).1, stepD_succ, (key.1 hm).2]
      simp [hm]
    · rw [key.2 hm]
      simp [hm]
theorem rowD_eq (r : Str × Int × Int) : rowD r = .tuple [.str r.1, .int r.2.1, .int r.2.2] := rfl
theorem enum_rows (H : Hrp) : enumD (H.rows.map rowD) = (upto H.L).map fun i => .tuple [.int i, rowD (H.row i)] := enum_upto H.rows rowD
theorem int_dp (i : Int) (d : D) : min (PyData.int i).depth d.depth ≤ 100 := by simp [PyData.depth]
theorem log_small {i : Int} (h0 : 0 ≤ i) (h1 : i < 1000000) : i.natAbs.log2 < 1920 := by
  by_cases z : i.natAbs = 0
  · rw [z]; decide
  · have : i.natAbs.log2 < 40 := (Nat.log2_lt z).mpr (by omega)
    omega
theorem div_small {H : Hrp} (ok : H.Ok) {i : Int} (h0 : 0 ≤ i) (h1 : i < H.n) : 0 ≤ i / H.L ∧ i / H.L < 100 := by
  have L0 := ok.L0
  have n1 := ok.n1
  refine ⟨Int.ediv_nonneg h0 (by omega), ?_⟩
  have := Int.ediv_le_self H.L h0
  omega
theorem short_all : ∀ k : Nat, k < 100 → (Str.ofString (toString (k : Int))).length ≤ 2 ∧ PyData.strOk (Str.ofString (toString (k : Int))) = true := by decide +kernel
theorem short_int {i : Int} (h0 : 0 ≤ i) (h1 : i < 100) : (Str.ofString (toString i)).length ≤ 2 ∧ PyData.strOk (Str.ofString (toString i)) = true := by
  have := short_all i.toNat (by omega)
  rwa [show ((i.toNat : Nat) : Int) = i by omega] at this
theorem len_app (a b : Str) : (a ++ b).length = a.length + b.length := strLen_append a b
theorem ofs_int (i : Int) : (toString i : Str) = Str.ofString (toString i) := rfl
theorem app_assoc (a b c : Str) : a ++ b ++ c = a ++ (b ++ c) := Str.append_assoc a b c
theorem app_nil (a : Str) : Str.empty ++ a = a := Str.empty_append a
theorem sets_len : ∀ n : Nat, (sets n).length = 3 ^ n
  | 0 => rfl
  | n + 1 => by
    show ((sets n).flatMap fun r => [r ++ [-1], r ++ [0], r ++ [1]]).length = _
    rw [Nat.pow_succ, ← sets_len n]
    generalize sets n = l
    induction l with
    | nil => rfl
    | cons a l ih => rw [List.flatMap_cons, List.length_append, ih, List.length_cons]; simp; omega
def setD (r : List Int) : D := .tuple (r.map .int)
def threeD (r : List Int) : List D := [setD (r ++ [-1]), setD (r ++ [0]), setD (r ++ [1])]
theorem setsD_eq (n : Nat) : setsD n = .list ((sets n).map setD) := rfl
theorem sets_flat (n : Nat) : (sets n).flatMap threeD = (sets (n + 1)).map setD := by
  show _ = ((sets n).flatMap fun r => [r ++ [-1], r ++ [0], r ++ [1]]).map setD
  rw [List.map_flatMap]
  rfl
theorem set_len : ∀ (n : Nat) (r : List Int), r ∈ sets n → r.length = n
  | 0, r, h => by
    rw [List.mem_singleton.mp h]
    rfl
  | n + 1, r, h => by
    obtain ⟨q, hq, hr⟩ := List.mem_flatMap.mp h
    have := set_len n q hq
    simp only [List.mem_cons, List.not_mem_nil, or_false] at hr
    rcases hr with rfl | rfl | rfl <;> simp [this]
theorem pow_le {n : Nat} (h : n ≤ 4) : 3 ^ n ≤ 81 := by
  have : n = 0 ∨ n = 1 ∨ n = 2 ∨ n = 3 ∨ n = 4 := by omega
  rcases this with rfl | rfl | rfl | rfl | rfl <;> decide
theorem keeps_app : ∀ (xs : List D) (x : D), keeps (xs.map Val.d ++ [Val.d x]) = some (xs ++ [x])
  | [], x => rfl
  | y :: ys, x => by
    show (match (Val.d y).kp, keeps (ys.map Val.d ++ [Val.d x]) with
      | some d, some ds => some (d :: ds)
      | _, _ => none) = _
    rw [keeps_app ys x]
    rfl
theorem nameS_ok : ∀ s ∈ nameS, s.length ≤ 10 ∧ PyData.strOk s = true := by decide +kernel
abbrev O := Option Val
theorem szl {n : Nat} (h : n ≤ 1000) : n ≤ sizeLine := by rw [sizeLine_eq]; omega
theorem szl1 {n : Nat} (h : n ≤ 1000) : n < sizeLine := by rw [sizeLine_eq]; omega
theorem set_rows {H : Hrp} {ps : List Int} (ok : H.Ok) (st : isSet H ps) : 2 ≤ ps.length ∧ ps.length ≤ 12 := by
  have := ok.len0
  have := ok.len1
  have := st.1
  omega
theorem opn_le (ok : H.Ok) (h0 : 0 ≤ i) (h1 : i < H.n) : 0 ≤ H.opn i ∧ H.opn i ≤ 101000 := by
  obtain ⟨q0, q1⟩ := div_small ok h0 h1
  have b := ok.base _ (Hrp.row_mem (ok.md0 i) (ok.md1 i))
  have s0 := ok.sz0
  have s1 := ok.sz1
  have m0 : 0 ≤ H.sz * (i / H.L) := Int.mul_nonneg (by omega) q0
  have m1 : H.sz * (i / H.L) ≤ 1000 * 100 := Int.mul_le_mul s1 (by omega) q0 (by decide)
  unfold Hrp.opn
  omega
theorem pit_le (ok : H.Ok) (st : isSet H ps) (h0 : 0 ≤ i) (h1 : i < H.n) : -1 ≤ H.pit ps i ∧ H.pit ps i ≤ 101001 := by
  have a := opn_le ok h0 h1
  have b0 := ok.md0 i
  have b1 := ok.md1 i
  have e := st.1
  unfold Hrp.L at b1
  have h3 : (i % H.L).toNat < ps.length := by unfold Hrp.L at *; omega
  have e2 : ps.getD (i % H.L).toNat 0 = ps[(i % H.L).toNat] := by simp [List.getD, h3]
  have b := st.2 _ (List.getElem_mem h3)
  unfold Hrp.pit
  rw [e2]
  omega
theorem strOk_iff {s : Str} : PyData.strOk s = true ↔ ∀ c ∈ s.cps.toList, c < 0x110000 := by
  unfold PyData.strOk
  rw [← Array.all_toList, List.all_eq_true]
  exact ⟨fun h c m => of_decide_eq_true (h c m), fun h c m => decide_eq_true (h c m)⟩
theorem strOk_app {a b : Str} (ha : PyData.strOk a = true) (hb : PyData.strOk b = true) : PyData.strOk (a ++ b) = true := by
  rw [strOk_iff] at *
  intro c m
  have e : (a ++ b).cps = a.cps ++ b.cps := rfl
  rw [e, Array.toList_append] at m
  rcases List.mem_append.mp m with m | m
  · exact ha c m
  · exact hb c m
theorem strOk_wide {a : Str} (h : PyData.strOk a = true) : a.cps.toList.all (fun c => decide (c < 16 ^ 8)) = true := by
  rw [strOk_iff] at h
  rw [List.all_eq_true]
  intro c m
  have := h c m
  simp
  omega
theorem text_ok {H : Hrp} {i : Int} (ok : H.Ok) (h0 : 0 ≤ i) (h1 : i < H.n) : (H.text i).length ≤ 13 ∧ PyData.strOk (H.text i) = true := by
  obtain ⟨q0, q1⟩ := div_small ok h0 h1
  have nm := ok.name _ (Hrp.row_mem (ok.md0 i) (ok.md1 i))
  have st := short_int q0 q1
  unfold Hrp.text
  refine ⟨?_, strOk_app nm.2 (strOk_app (by decide +kernel) st.2)⟩
  rw [len_app, len_app]
  show (H.row (i % H.L)).1.length + (1 + _) ≤ _
  omega
theorem shaped_str {s : Str} (h : PyData.strOk s = true) : SeqAt.shaped (.str s) = true := by
  simp [SeqAt.shaped, PyData.canLay0, h, PyData.depth]
theorem lay_strs : ∀ l : List Str, (∀ s ∈ l, PyData.strOk s = true) → PyData.canLayAll0 (l.map .str) = true
  | [], _ => rfl
  | s :: l, h => by
    rw [List.map_cons, PyData.canLayAll0, PyData.canLay0, h s List.mem_cons_self, lay_strs l fun x m => h x (List.mem_cons_of_mem _ m)]
    rfl
theorem depth_strs : ∀ l : List Str, PyData.depthAll (l.map .str) = 0
  | [] => rfl
  | s :: l => by rw [List.map_cons, PyData.depthAll, depth_strs l]; rfl
theorem shaped_strs {l : List Str} (h : ∀ s ∈ l, PyData.strOk s = true) : SeqAt.shaped (.list (l.map .str)) = true := by
  have e := lay_strs l h
  have d := depth_strs l
  simp [SeqAt.shaped, PyData.canLay0, PyData.depth, e, d]
theorem any_word (g : Int → Str) (n : Int) (w : Str) : ((upto n).map fun i => PyData.str (g i)).any (fun y => PyData.eqv y (.str w)) = ((upto n).find? fun i => g i == w).isSome := by
  rw [Bool.eq_iff_iff, List.any_map, List.any_eq_true, List.find?_isSome]
  simp only [Function.comp, eqv_strs]
theorem first_word (g : Int → Str) (n : Int) (w : Str) : firstAt ((upto n).map fun i => PyData.str (g i)) (.str w) = ((upto n).find? fun i => g i == w).map Int.toNat := by
  unfold firstAt
  rw [List.findIdx?_map]
  have e : ((fun z => PyData.eqv z (.str w)) ∘ fun i => PyData.str (g i)) = fun i => g i == w := by
    funext i
    exact eqv_strs _ _
  rw [e, find_upto]
theorem shaped_upto {g : Int → Str} {n : Int} (hg : ∀ i, 0 ≤ i → i < n → PyData.strOk (g i) = true) : SeqAt.shaped (.list ((upto n).map fun i => PyData.str (g i))) = true := by
  have := shaped_strs (l := (upto n).map g) fun s hs => by
    obtain ⟨j, hj, rfl⟩ := List.mem_map.mp hs
    exact hg j (mem_count hj).1 (mem_count hj).2
  rwa [List.map_map] at this
theorem names_eq (H : Hrp) : (H.rows.map fun r => PyData.str r.1) = (upto H.L).map fun i => .str (H.row i).1 := map_upto H.rows fun r => PyData.str r.1
theorem texts_eq (H : Hrp) : H.texts.map PyData.str = (upto H.n).map fun i => .str (H.text i) := by
  unfold Hrp.texts
  rw [List.map_map]
  rfl
theorem ixD_sm {n : Int} {p : Int → Bool} (hn : n ≤ 100) : Sm 40 0 (ixD ((upto n).find? p)) := by
  cases e : (upto n).find? p with
  | none => exact Sm.none.mono (by decide) (by decide)
  | some i =>
    have m := find_some_upto e
    exact Sm.int (by omega) (by omega)
theorem getD_upto {n j : Int} (h0 : 0 ≤ j) (h1 : j < n) : (upto n).getD j.toNat default = j := by
  have h3 : j.toNat < (upto n).length := by rw [upto_len]; omega
  rw [List.getD_eq_getElem?_getD, List.getElem?_eq_getElem h3]
  simp [upto]
  omega
theorem at_upto {n j : Int} (f : Int → D) (h0 : 0 ≤ j) (h1 : j < n) : atI ((upto n).map f) j = some (f j) := by
  rw [atI_map h0 (by rw [upto_len]; omega), getD_upto h0 h1]
theorem ix_list {xs : List D} {j : Int} {d : D} {P : Val → Prop} (e : atI xs j = some d) (h : P (.d d)) : opIx (.d (.list xs)) (.d (.int j)) P := by
  show match atI xs j with
    | some d => P (.d d)
    | none => False
  rw [e]
  exact h
theorem strOk_cut {z : Str} (lo hi : Option Int) (h : PyData.strOk z = true) : PyData.strOk (cutS z lo hi) = true := by
  rw [strOk_iff] at *
  intro c m
  have m : c ∈ ((z.cps.toList.drop (HT.sIx z.length 0 lo)).take (HT.sIx z.length z.length hi - HT.sIx z.length 0 lo)) := by simpa [cutS] using m
  exact h c (List.mem_of_mem_drop (List.mem_of_mem_take m))
theorem sets_rng : ∀ (n : Nat) (r : List Int), r ∈ sets n → ∀ p ∈ r, -1 ≤ p ∧ p ≤ 1
  | 0, r, h, p, hp => by
    rw [List.mem_singleton.mp h] at hp
    cases hp
  | n + 1, r, h, p, hp => by
    obtain ⟨q, hq, hr⟩ := List.mem_flatMap.mp h
    have ih := sets_rng n q hq
    simp only [List.mem_cons, List.not_mem_nil, or_false] at hr
    rcases hr with rfl | rfl | rfl
    all_goals
      rcases List.mem_append.mp hp with hp | hp
      · exact ih p hp
      · rw [List.mem_singleton.mp hp]; decide
theorem asc_eq : ∀ {l m : List Int}, l.Pairwise (· < ·) → m.Pairwise (· < ·) → (∀ k, k ∈ l ↔ k ∈ m) → l = m
  | [], [], _, _, _ => rfl
  | [], b :: m, _, _, h => absurd ((h b).mpr List.mem_cons_self) (by simp)
  | a :: l, [], _, _, h => absurd ((h a).mp List.mem_cons_self) (by simp)
  | a :: l, b :: m, p, q, h => by
    obtain ⟨p1, p2⟩ := List.pairwise_cons.mp p
    obtain ⟨q1, q2⟩ := List.pairwise_cons.mp q
    have e : a = b := by
      rcases List.mem_cons.mp ((h a).mp List.mem_cons_self) with e | m1
      · exact e
      · rcases List.mem_cons.mp ((h b).mpr List.mem_cons_self) with e | m2
        · exact e.symm
        · have := q1 a m1
          have := p1 b m2
          omega
    subst e
    refine congrArg _ (asc_eq p2 q2 fun k => ⟨fun hk => ?_, fun hk => ?_⟩)
    · rcases List.mem_cons.mp ((h k).mp (List.mem_cons_of_mem _ hk)) with e | m1
      · have := p1 k hk
        omega
      · exact m1
    · rcases List.mem_cons.mp ((h k).mpr (List.mem_cons_of_mem _ hk)) with e | m1
      · have := q1 k hk
        omega
      · exact m1
theorem base_lt {m s : Int} (d : H.Drawn m s) {x y : Int} (h0 : 0 ≤ x) (h1 : x < y) (h2 : y < H.L) : (H.row x).2.1 < (H.row y).2.1 := by
  unfold Hrp.L at h2
  have hx : x.toNat < H.rows.length := by omega
  have hy : y.toNat < H.rows.length := by omega
  have p := List.pairwise_iff_getElem.mp d.asc x.toNat y.toNat (by simpa using hx) (by simpa using hy) (by omega)
  have ex : H.row x = H.rows[x.toNat] := by simp [Hrp.row, List.getD, hx]
  have ey : H.row y = H.rows[y.toNat] := by simp [Hrp.row, List.getD, hy]
  rw [ex, ey]
  simpa using p
theorem opn_lt {m s : Int} (d : H.Drawn m s) {x y : Int} (h0 : 0 ≤ x) (h1 : x < y) : H.opn x < H.opn y := by
  have ok := d.ok
  have L0 := ok.L0
  have s0 := ok.sz0
  have ex := Int.mul_ediv_add_emod x H.L
  have ey := Int.mul_ediv_add_emod y H.L
  have mx0 := ok.md0 x
  have mx1 := ok.md1 x
  have my0 := ok.md0 y
  have my1 := ok.md1 y
  have q : x / H.L ≤ y / H.L := Int.ediv_le_ediv (by omega) (by omega)
  unfold Hrp.opn
  by_cases e : x / H.L = y / H.L
  · rw [e] at ex ⊢
    have := base_lt d mx0 (show x % H.L < y % H.L by omega) my1
    omega
  · have q1 : x / H.L + 1 ≤ y / H.L := by omega
    have m1 : H.sz * (x / H.L + 1) ≤ H.sz * (y / H.L) := Int.mul_le_mul_of_nonneg_left q1 (by omega)
    rw [Int.mul_add, Int.mul_one] at m1
    have t := d.top _ (Hrp.row_mem mx0 mx1)
    have b := (ok.base _ (Hrp.row_mem my0 my1)).1
    omega
def opI (H : Hrp) : List Int := (upto H.n).map H.opn
theorem upto_asc (n : Int) : (upto n).Pairwise (· < ·) := by
  unfold upto
  refine List.Pairwise.map _ (fun a b h => ?_) List.pairwise_lt_range
  omega
theorem opI_asc {m s : Int} (d : H.Drawn m s) : (opI H).Pairwise (· < ·) := by
  unfold opI
  rw [List.pairwise_map]
  refine (List.Pairwise.and_mem.mp (upto_asc H.n)).imp fun {a b} h => ?_
  exact opn_lt d (mem_count h.1).1 h.2.2
theorem opI_eq (H : Hrp) : ((upto H.n).map fun i => PyData.int (H.opn i)) = (opI H).map .int := by
  unfold opI
  rw [List.map_map]
  rfl
end
end Pd

/-! Ph2: notes, scores, drawn parts as data. -/
namespace Pd
open PySem PySem.Spec PyProof.Rows L2
abbrev Nt := Int × Int × Int
def ntD (n : Nt) : D := .tuple [.int n.1, .int n.2.1, .int n.2.2]
def scoD (t : Int) (ns : List Nt) : D := .tuple [.int t, .tuple (ns.map ntD)]
def partD (first ss : List Int) (st : List Nt) : D := .tuple [.tuple (first.map .int), .tuple (ss.map .int), .tuple (st.map ntD)]
def ltN (a b : Nt) : Bool := decide (a.1 < b.1) || (!decide (b.1 < a.1) && (decide (a.2.1 < b.2.1) || (!decide (b.2.1 < a.2.1) && decide (a.2.2 < b.2.2))))
theorem dataLt_nt (a b : Nt) : PySem.W.dataLt (ntD a) (ntD b) = ltN a b := by
  simp [PySem.W.dataLt, ntD, PySem.W.keyToks, PySem.W.keyToksAll, PyProof.Rows.lexLt, PyProof.Rows.itemOrd, PyProof.Rows.itemLt, ltN]
def rowD2 (r : Nt × Int) : D := .tuple [ntD r.1, .int r.2]
theorem dataLt_row (a b : Nt × Int) : PySem.W.dataLt (rowD2 a) (rowD2 b) = (ltN a.1 b.1 || (!ltN b.1 a.1 && decide (a.2 < b.2))) := by
  simp [PySem.W.dataLt, rowD2, ntD, PySem.W.keyToks, PySem.W.keyToksAll, PyProof.Rows.lexLt, PyProof.Rows.itemOrd, PyProof.Rows.itemLt, ltN]
  rw [Bool.eq_iff_iff]
  simp only [Bool.or_eq_true, Bool.and_eq_true, Bool.not_eq_true', decide_eq_true_eq, decide_eq_false_iff_not]
  omega
theorem srt_asc (xs : List D) : (srt xs).Pairwise fun a b => PySem.W.dataLt b a = false := by
  have t := PySem.W.sortLe_total (PyProof.Rows.listOrd PyProof.Rows.itemOrd) false (fun d : D => PySem.W.keyToks d)
  have s := List.pairwise_mergeSort (le := PySem.W.dataLe false (id : D → D)) (fun a b c => t.trans a b c) (fun a b => by rw [Bool.or_eq_true]; exact t.total a b) xs
  refine s.imp fun {a b} h => ?_
  have h' : (!PySem.W.dataLt b a) = true := h
  simpa using h'
theorem srt_perm (xs : List D) : (srt xs).Perm xs := List.mergeSort_perm xs _
theorem ltN_iff {a b : Nt} : ltN a b = true ↔ a.1 < b.1 ∨ (a.1 = b.1 ∧ (a.2.1 < b.2.1 ∨ (a.2.1 = b.2.1 ∧ a.2.2 < b.2.2))) := by
  unfold ltN
  simp only [Bool.or_eq_true, Bool.and_eq_true, Bool.not_eq_true', decide_eq_true_eq, decide_eq_false_iff_not]
  omega
theorem ltN_no {a b : Nt} (h : ltN b a = false) : ltN a b = true ∨ a = b := by
  have h' : ¬ ltN b a = true := by rw [h]; decide
  rw [ltN_iff] at h' ⊢
  obtain ⟨a1, a2, a3⟩ := a
  obtain ⟨b1, b2, b3⟩ := b
  simp only [Prod.mk.injEq]
  simp only at h'
  omega
theorem alike_nt (a b : Nt) : PySem.W.alike (ntD a) (ntD b) = true := rfl
theorem alike_row (a b : Nt × Int) : PySem.W.alike (rowD2 a) (rowD2 b) = true := rfl
theorem depth_nt (a : Nt) : (ntD a).depth = 1 := rfl
theorem depth_row (a : Nt × Int) : (rowD2 a).depth = 2 := rfl
theorem alike_nts (l : List Nt) : PySem.W.AllAlike (l.map ntD) ∧ PySem.W.Sortable (l.map ntD) ∧ ∀ d ∈ l.map ntD, d.depth ≤ 100 := by
  refine ⟨.of fun b b' => rfl, .tuples fun b => ⟨_, _, rfl⟩, fun d hd => ?_⟩
  obtain ⟨a, _, rfl⟩ := List.mem_map.mp hd
  rw [depth_nt]; decide
theorem alike_rows (l : List (Nt × Int)) : PySem.W.AllAlike (l.map rowD2) ∧ PySem.W.Sortable (l.map rowD2) ∧ ∀ d ∈ l.map rowD2, d.depth ≤ 100 := by
  refine ⟨.of fun b b' => rfl, .tuples fun b => ⟨_, _, rfl⟩, fun d hd => ?_⟩
  obtain ⟨a, _, rfl⟩ := List.mem_map.mp hd
  rw [depth_row]; decide
theorem ntD_inj {a b : Nt} (h : ntD a = ntD b) : a = b := by
  obtain ⟨a1, a2, a3⟩ := a
  obtain ⟨b1, b2, b3⟩ := b
  unfold ntD at h
  simp only [PyData.tuple.injEq, List.cons.injEq, PyData.int.injEq, and_true] at h
  simp [h]
theorem eqv_nt (a b : Nt) : PyData.eqv (ntD a) (ntD b) = decide (a = b) := by
  obtain ⟨a1, a2, a3⟩ := a
  obtain ⟨b1, b2, b3⟩ := b
  unfold ntD
  rw [Bool.eq_iff_iff]
  simp only [PyData.eqv, PyData.eqvAll, Bool.and_eq_true, Bool.and_true, beq_iff_eq, decide_eq_true_eq, Prod.mk.injEq]
/-- sorted notes, sorted rows -/
theorem srt_nts (l : List Nt) : ∃ m : List Nt, m.Perm l ∧ srt (l.map ntD) = m.map ntD ∧ m.Pairwise fun a b => ltN b a = false := by
  obtain ⟨m, h1, h2⟩ := perm_map (srt_perm (l.map ntD)) l rfl
  have h := srt_asc (l.map ntD)
  rw [h2, List.pairwise_map] at h
  exact ⟨m, h1, h2, h.imp fun {a b} q => by rw [dataLt_nt] at q; exact q⟩
theorem srt_rows (l : List (Nt × Int)) : ∃ m : List (Nt × Int), m.Perm l ∧ srt (l.map rowD2) = m.map rowD2 ∧ m.Pairwise fun a b => ltN b.1 a.1 = false := by
  obtain ⟨m, h1, h2⟩ := perm_map (srt_perm (l.map rowD2)) l rfl
  have h := srt_asc (l.map rowD2)
  rw [h2, List.pairwise_map] at h
  exact ⟨m, h1, h2, h.imp fun {a b} q => by rw [dataLt_row] at q; simp only [Bool.or_eq_false_iff] at q; exact q.1⟩

/-! ### forms -/
def isPosI : D → Bool
  | .int i => decide (0 < i)
  | _ => false
def isNote : D → Bool
  | .tuple [a, b, c] => isIndex a && (isNum b && isPosI c)
  | _ => false
def isScoreForm : D → Bool
  | .tuple [t, .tuple ns] => isIndex t && ns.all isNote
  | _ => false
theorem isIndex_of {x : D} (h : isIndex x = true) : ∃ i, x = .int i ∧ 0 ≤ i := by
  cases x with
  | int i => exact ⟨i, rfl, by simpa [isIndex] using h⟩
  | _ => cases h
theorem isNum_of {x : D} (h : isNum x = true) : ∃ i, x = .int i := by
  cases x with
  | int i => exact ⟨i, rfl⟩
  | _ => cases h
theorem isPosI_of {x : D} (h : isPosI x = true) : ∃ i, x = .int i ∧ 0 < i := by
  cases x with
  | int i => exact ⟨i, rfl, by simpa [isPosI] using h⟩
  | _ => cases h
theorem isNote_of {x : D} (h : isNote x = true) : ∃ n : Nt, x = ntD n ∧ 0 ≤ n.1 ∧ 1 ≤ n.2.2 := by
  unfold isNote at h
  split at h
  · rename_i a b c
    simp only [Bool.and_eq_true] at h
    obtain ⟨i, rfl, hi⟩ := isIndex_of h.1
    obtain ⟨j, rfl⟩ := isNum_of h.2.1
    obtain ⟨k, rfl, hk⟩ := isPosI_of h.2.2
    exact ⟨(i, j, k), rfl, hi, by show 1 ≤ k; omega⟩
  · cases h
theorem isNote_nt (n : Nt) : isNote (ntD n) = (decide (0 ≤ n.1) && decide (1 ≤ n.2.2)) := by
  show (isIndex (.int n.1) && (isNum (.int n.2.1) && isPosI (.int n.2.2))) = _
  rw [Bool.eq_iff_iff]
  simp [isIndex, isNum, isPosI, isIntD, isBoolD]
  omega
theorem notes_of : ∀ {xs : List D}, xs.all isNote = true → ∃ ns : List Nt, xs = ns.map ntD ∧ ∀ n ∈ ns, 0 ≤ n.1 ∧ 1 ≤ n.2.2
  | [], _ => ⟨[], rfl, by simp⟩
  | x :: xs, h => by
    simp only [List.all_cons, Bool.and_eq_true] at h
    obtain ⟨n, rfl, hn⟩ := isNote_of h.1
    obtain ⟨ns, rfl, hs⟩ := notes_of h.2
    exact ⟨n :: ns, rfl, fun m hm => by
      rcases List.mem_cons.mp hm with rfl | hm
      · exact hn
      · exact hs m hm⟩
theorem form_of {x : D} (h : isScoreForm x = true) : ∃ t ns, x = scoD t ns ∧ 0 ≤ t ∧ ∀ n ∈ ns, 0 ≤ n.1 ∧ 1 ≤ n.2.2 := by
  unfold isScoreForm at h
  split at h
  · rename_i a xs
    simp only [Bool.and_eq_true] at h
    obtain ⟨i, rfl, hi⟩ := isIndex_of h.1
    obtain ⟨ns, rfl, hn⟩ := notes_of h.2
    exact ⟨i, ns, rfl, hi, hn⟩
  · cases h
theorem form_sco (t : Int) (ns : List Nt) : isScoreForm (scoD t ns) = (decide (0 ≤ t) && ns.all fun n => decide (0 ≤ n.1) && decide (1 ≤ n.2.2)) := by
  show (isIndex (.int t) && (ns.map ntD).all isNote) = _
  rw [List.all_map]
  have e : (isNote ∘ ntD) = fun n : Nt => decide (0 ≤ n.1) && decide (1 ≤ n.2.2) := funext isNote_nt
  rw [e]
  rfl
theorem scoD_inj {t u : Int} {ns ms : List Nt} (h : scoD t ns = scoD u ms) : t = u ∧ ns = ms := by
  unfold scoD at h
  simp only [PyData.tuple.injEq, List.cons.injEq, PyData.int.injEq, and_true] at h
  refine ⟨h.1, ?_⟩
  have := h.2
  clear h
  induction ns generalizing ms with
  | nil => cases ms with
    | nil => rfl
    | cons _ _ => cases this
  | cons a r ih => cases ms with
    | nil => cases this
    | cons b s =>
      simp only [List.map_cons, List.cons.injEq] at this
      rw [ntD_inj this.1, ih this.2]
def Φ_is_note : Fs := fun ys P _ => ∃ x, ys = [.d x] ∧ P (.d (.bool (isNote x)))
def φ_is_note : Fn1 := fun d R => R (.bool (isNote d))
theorem φ_is_note_ok : ∀ d R, φ_is_note d R → Φ_is_note [.d d] (fun y => match y with
  | .d x => R x
  | _ => False) (fun _ => False) := fun d R h => ⟨d, rfl, h⟩
def Φ_is_score_form : Fs := fun ys P _ => ∃ x, ys = [.d x] ∧ P (.d (.bool (isScoreForm x)))

/-! ### what checked_score says -/
def bsc (k : Int) (w : Str) : Xn := ⟨"BadScore", [("number", .int k), ("fault", .str w)]⟩
def tlg (w : Str) (m : Int) : Xn := ⟨"TooLarge", [("what", .str w), ("limit", .int m)]⟩
def nFault (t : Int) (ns : List Nt) (k : Int) : Option Str :=
  let n := ns.getD k.toNat default
  if 0 < k ∧ ltN (ns.getD (k - 1).toNat default) n = false then some "order"
  else if ¬ (-1 ≤ n.2.1 ∧ n.2.1 ≤ 599) then some "pitch"
  else if t < n.1 + n.2.2 then some "length" else none
def firstFault (t : Int) (ns : List Nt) : Option Xn := (upto ns.length).findSome? fun k => (nFault t ns k).map (bsc k)
def sFault' (t : Int) (ns : List Nt) : Option Xn :=
  if t < 1 then some (bsc (-1) "ticks") else if 64 < t then some (tlg "ticks" 64) else if 120 < ns.length then some (tlg "notes" 120) else firstFault t ns
def unNt : D → Nt
  | .tuple [.int a, .int b, .int c] => (a, b, c)
  | _ => default
def scoT : D → Int
  | .tuple [.int t, _] => t
  | _ => 0
def scoN : D → List Nt
  | .tuple [_, .tuple ns] => ns.map unNt
  | _ => []
theorem scoN_sco (t : Int) (ns : List Nt) : scoN (scoD t ns) = ns := by
  show (ns.map ntD).map unNt = ns
  rw [List.map_map]
  exact (List.map_congr_left fun n _ => rfl).trans (List.map_id ns)
def sFault (x : D) : Option Xn := if isScoreForm x = true then sFault' (scoT x) (scoN x) else some (bsc (-1) "form")
theorem sFault_sco {t : Int} {ns : List Nt} (h : isScoreForm (scoD t ns) = true) : sFault (scoD t ns) = sFault' t ns := by
  unfold sFault
  rw [if_pos h, scoN_sco]; try rfl
def Φ_check_note : Fs := fun ys P Ex => ∃ t ns, ∃ k : Int, ys = [.d (scoD t ns), .d (.int k)] ∧ 0 ≤ k ∧ k < ns.length ∧ ((nFault t ns k = none ∧ P (.d .none)) ∨ ∃ w, nFault t ns k = some w ∧ Ex (bsc k w))
def Φ_checked_score : Fs := fun ys P Ex => ∃ x, ys = [.d x] ∧ ((sFault x = none ∧ P (.d x)) ∨ ∃ e, sFault x = some e ∧ Ex e)

/-! ### drawn parts -/
def seqD (c : Bool) (xs : List D) : D := if c = true then .tuple xs else .list xs
def fits (H : Hrp) (l : List Int) : Bool := decide ((l.length : Int) ≤ H.a) && (l.isEmpty || decide (l.getLast?.getD 0 - l.head?.getD 0 ≤ H.b))
def leftMany (H : Hrp) (l : List Int) : Option Int := ((upto (l.length + 1)).filter fun m => fits H (l.take m.toNat) && fits H (l.drop m.toNat)).head?
def optI : Option Int → D
  | some i => .int i
  | none => .none
def Φ__law_fits : Fs := fun ys P _ => ∃ h : Hrp, ∃ c l, ys = [.d h.d, .d (seqD c (l.map .int))] ∧ P (.d (.bool (fits h l)))
def Φ__law_left_many : Fs := fun ys P _ => ∃ h : Hrp, ∃ c, ∃ l : List Int, ys = [.d h.d, .d (seqD c (l.map .int))] ∧ l.length ≤ 1000 ∧ P (.d (optI (leftMany h l)))
def lastN (n : Nt) : Int := n.1 + n.2.2 - 1
def Φ__law_last : Fs := fun ys P _ => ∃ n : Nt, ys = [.d (ntD n)] ∧ P (.d (.int (lastN n)))
def cl3 (v : Int) : Int := if (if v < 1 then v else 1) > -1 then (if v < 1 then v else 1) else -1
theorem cl3_le (v : Int) : -1 ≤ cl3 v ∧ cl3 v ≤ 1 := by unfold cl3; split <;> split <;> omega
theorem cl3_eq {v : Int} (h0 : -1 ≤ v) (h1 : v ≤ 1) : cl3 v = v := by unfold cl3; split <;> split <;> omega
def movedL (ps : List Int) (l w : Int) : List Int := ps.take l.toNat ++ [cl3 (ps.getD l.toNat 0 + w)] ++ ps.drop (l.toNat + 1)
def Φ__law_moved : Fs := fun ys P _ => ∃ ps : List Int, ∃ l w : Int, ys = [.d (.tuple (ps.map .int)), .d (.int l), .d (.int w)] ∧ 0 ≤ l ∧ l < ps.length ∧ ps.length ≤ 1000 ∧ P (.d (.tuple ((movedL ps l w).map .int)))
theorem moved_set {H : Hrp} {ps : List Int} {l w : Int} (s : isSet H ps) (h0 : 0 ≤ l) (h1 : l < ps.length) : isSet H (movedL ps l w) := by
  refine ⟨?_, fun p hp => ?_⟩
  · unfold movedL
    simp only [List.length_append, List.length_take, List.length_drop, List.length_cons, List.length_nil]
    have := s.1
    omega
  · unfold movedL at hp
    simp only [List.mem_append, List.mem_singleton] at hp
    rcases hp with (hp | hp) | hp
    · exact s.2 p (List.mem_of_mem_take hp)
    · rw [hp]; exact cl3_le _
    · exact s.2 p (List.mem_of_mem_drop hp)
def srtI (l : List Int) : List Int := l.mergeSort fun a b => decide (a ≤ b)
/-- the strings of rows at a tick -/
def strsAt (rows : List (Nt × Int)) (k : Int) : List Int := (rows.filter fun r => decide (r.1.1 = k)).map (·.2)
structure DP (H : Hrp) (m b t : Int) (ns : List Nt) (first ss : List Int) (st : List Nt) : Prop where
  t0 : 1 ≤ t
  t1 : t ≤ m
  set : isSet H first
  len : ss.length = ns.length
  few : (ns.length : Int) ≤ m * b
  note : ∀ n ∈ ns, 0 ≤ n.1 ∧ n.1 < t ∧ 1 ≤ n.2.2 ∧ n.2.2 ≤ 3 ∧ n.1 + n.2.2 ≤ t ∧ -1 ≤ n.2.1 ∧ n.2.1 ≤ 101001
  asc : ns.Pairwise fun a b => ltN a b = true
  str : ∀ s ∈ ss, 0 ≤ s ∧ s < H.n
  hands : ∀ k, (leftMany H (srtI (strsAt (ns.zip ss) k))).isSome = true ∨ strsAt (ns.zip ss) k = []
  ring : (ns.zip ss).Pairwise fun a b => a.2 = b.2 → lastN a.1 < b.1.1 ∨ lastN b.1 < a.1.1
  steps : ∀ s ∈ st, 0 ≤ s.1 ∧ s.1 + 1 < t ∧ 0 ≤ s.2.1 ∧ s.2.1 < H.L ∧ (s.2.2 = 1 ∨ s.2.2 = -1)
  stfew : (st.length : Int) ≤ 2 * m
  stasc : st.Pairwise fun a b => ltN a b = true
def Φ__law_drawn_part : Fs := fun ys P _ => ∃ h : Hrp, ∃ m b : Int, h.Ok ∧ ys = [.bag, .d h.d, .d (.int m), .d (.int b)] ∧ 1 ≤ m ∧ m ≤ 20 ∧ 0 ≤ b ∧ b ≤ 10 ∧ ∀ t ns first ss st, DP h m b t ns first ss st → P (.d (.tuple [scoD t ns, partD first ss st]))
def Φ__law_is_int : Fs := fun ys P _ => ∃ x, ys = [.d x] ∧ P (.d (.bool (isNum x)))
end Pd

/-! Ph3: a part while it is drawn. -/
namespace Pd
open PySem PySem.Spec PyProof.Rows L2
theorem srtI_perm {l m : List Int} (h : l.Perm m) : srtI l = srtI m := by
  unfold srtI
  have le_t : ∀ a b c : Int, decide (a ≤ b) = true → decide (b ≤ c) = true → decide (a ≤ c) = true := fun a b c => by simp only [decide_eq_true_eq]; omega
  have le_o : ∀ a b : Int, (decide (a ≤ b) || decide (b ≤ a)) = true := fun a b => by simp only [Bool.or_eq_true, decide_eq_true_eq]; omega
  refine List.Perm.eq_of_pairwise (le := fun a b => decide (a ≤ b) = true) (fun a b _ _ h1 h2 => ?_) (List.pairwise_mergeSort le_t le_o l) (List.pairwise_mergeSort le_t le_o m) (((List.mergeSort_perm l _).trans h).trans (List.mergeSort_perm m _).symm)
  simp only [decide_eq_true_eq] at h1 h2
  omega
theorem strsAt_perm {l m : List (Nt × Int)} (h : l.Perm m) (k : Int) : (strsAt l k).Perm (strsAt m k) := (h.filter _).map _
theorem strsAt_app (l : List (Nt × Int)) (r : Nt × Int) (k : Int) : strsAt (l ++ [r]) k = if r.1.1 = k then strsAt l k ++ [r.2] else strsAt l k := by
  unfold strsAt
  rw [List.filter_append, List.map_append]
  by_cases e : r.1.1 = k
  · rw [if_pos e]; simp [e]
  · rw [if_neg e]; simp [e]
structure DI (H : Hrp) (t kt ks f c d : Int) (ps : List Int) (rows : List (Nt × Int)) (st : List Nt) : Prop where
  set : isSet H ps
  few : (rows.length : Int) ≤ c
  note : ∀ r ∈ rows, 0 ≤ r.1.1 ∧ r.1.1 < kt ∧ 1 ≤ r.1.2.2 ∧ r.1.2.2 ≤ 3 ∧ r.1.1 + r.1.2.2 ≤ t ∧ -1 ≤ r.1.2.1 ∧ r.1.2.1 ≤ 101001 ∧ 0 ≤ r.2 ∧ r.2 < H.n
  dis : rows.Pairwise fun a b => a.1 ≠ b.1
  ring : rows.Pairwise fun a b => a.2 = b.2 → lastN a.1 < b.1.1 ∨ lastN b.1 < a.1.1
  hands : ∀ k, (leftMany H (srtI (strsAt rows k))).isSome = true ∨ strsAt rows k = []
  steps : ∀ s ∈ st, 0 ≤ s.1 ∧ (s.1 < ks ∨ (s.1 = ks ∧ (H.row s.2.1).2.2 < f)) ∧ s.1 + 1 < t ∧ 0 ≤ s.2.1 ∧ s.2.1 < H.L ∧ (s.2.2 = 1 ∨ s.2.2 = -1)
  stfew : (st.length : Int) ≤ d
  stdis : st.Pairwise (· ≠ ·)
section
variable {H : Hrp} {t kt ks f c d k : Int} {ps : List Int} {rows : List (Nt × Int)} {st : List Nt}
theorem DI.start (s : isSet H ps) (hc : 0 ≤ c) (hd : 0 ≤ d) : DI H t 0 0 0 c d ps [] [] :=
  ⟨s, by simpa using hc, by simp, .nil, .nil, fun k => .inr rfl, by simp, by simpa using hd, .nil⟩
theorem DI.grow {c' d' kt' : Int} (h : DI H t kt ks f c d ps rows st) (hc : c ≤ c') (hd : d ≤ d') (hk : kt ≤ kt') : DI H t kt' ks f c' d' ps rows st :=
  ⟨h.set, by have := h.few; omega, fun r m => by have := h.note r m; omega, h.dis, h.ring, h.hands, h.steps, by have := h.stfew; omega, h.stdis⟩
theorem DI.none_at (h : DI H t kt ks f c d ps rows st) : strsAt rows kt = [] := by
  unfold strsAt
  rw [List.map_eq_nil_iff, List.filter_eq_nil_iff]
  intro r m
  have := h.note r m
  simp
  omega
theorem DI.pluck {n : Nt} {s : Int} (h : DI H t (k + 1) ks f c d ps rows st) (hn : n.1 = k) (k0 : 0 ≤ k) (l1 : 1 ≤ n.2.2) (l3 : n.2.2 ≤ 3) (le : n.1 + n.2.2 ≤ t) (p0 : -1 ≤ n.2.1) (p1 : n.2.1 ≤ 101001) (s0 : 0 ≤ s) (s1 : s < H.n)
    (hd : ∀ r ∈ rows, r.1 ≠ n) (hr : ∀ r ∈ rows, r.2 = s → lastN r.1 < k) (hh : (leftMany H (srtI (strsAt rows k ++ [s]))).isSome = true) : DI H t (k + 1) ks f (c + 1) d ps (rows ++ [(n, s)]) st := by
  refine ⟨h.set, ?_, fun r m => ?_, ?_, ?_, fun j => ?_, h.steps, h.stfew, h.stdis⟩
  · have := h.few
    rw [List.length_append, List.length_singleton]; omega
  · rcases List.mem_append.mp m with m | m
    · exact h.note r m
    · rw [List.mem_singleton.mp m]
      refine ⟨by show 0 ≤ n.1; omega, by show n.1 < k + 1; omega, l1, l3, le, p0, p1, s0, s1⟩
  · refine List.pairwise_append.mpr ⟨h.dis, List.pairwise_singleton _ _, fun a ma b mb => ?_⟩
    rw [List.mem_singleton.mp mb]
    exact hd a ma
  · refine List.pairwise_append.mpr ⟨h.ring, List.pairwise_singleton _ _, fun a ma b mb e => ?_⟩
    rw [List.mem_singleton.mp mb] at e ⊢
    have := hr a ma e
    exact .inl (by show lastN a.1 < n.1; omega)
  · rw [strsAt_app]
    show _ ∨ (if n.1 = j then strsAt rows j ++ [s] else strsAt rows j) = []
    show (leftMany H (srtI (if n.1 = j then strsAt rows j ++ [s] else strsAt rows j))).isSome = true ∨ _
    by_cases e : n.1 = j
    · rw [if_pos e]
      have ej : j = k := by omega
      subst ej
      exact .inl hh
    · rw [if_neg e]
      exact h.hands j
theorem DI.step {l w : Int} (h : DI H t kt ks f c d ps rows st) (ok : H.Ok) (k0 : 0 ≤ ks) (k1 : ks + 1 < t) (l0 : 0 ≤ l) (l1 : l < H.L) (lf : (H.row l).2.2 = f) (hw : w = 1 ∨ w = -1) : DI H t kt ks (f + 1) c (d + 1) (movedL ps l w) rows (st ++ [(ks, l, w)]) := by
  refine ⟨moved_set h.set l0 (by rw [h.set.1]; exact l1), h.few, h.note, h.dis, h.ring, h.hands, fun s m => ?_, ?_, ?_⟩
  · rcases List.mem_append.mp m with m | m
    · have := h.steps s m
      omega
    · rw [List.mem_singleton.mp m]
      exact ⟨k0, .inr ⟨rfl, by show (H.row l).2.2 < f + 1; omega⟩, k1, l0, l1, hw⟩
  · have := h.stfew
    rw [List.length_append, List.length_singleton]; omega
  · refine List.pairwise_append.mpr ⟨h.stdis, List.pairwise_singleton _ _, fun a ma b mb => ?_⟩
    rw [List.mem_singleton.mp mb]
    intro e
    have := h.steps a ma
    rw [e] at this
    have q : (H.row l).2.2 < f := by
      rcases this.2.1 with z | z
      · exact absurd z (by show ¬ ks < ks; omega)
      · exact z.2
    omega
theorem DI.skip (h : DI H t kt ks f c d ps rows st) : DI H t kt ks (f + 1) c (d + 1) ps rows st :=
  ⟨h.set, h.few, h.note, h.dis, h.ring, h.hands, fun s m => by have := h.steps s m; omega, by have := h.stfew; omega, h.stdis⟩
theorem DI.next (h : DI H t kt ks f c d ps rows st) : DI H t kt (ks + 1) 0 c d ps rows st :=
  ⟨h.set, h.few, h.note, h.dis, h.ring, h.hands, fun s m => by have := h.steps s m; omega, h.stfew, h.stdis⟩
theorem DI.end_ {m b : Int} {first : List Int} {rs : List (Nt × Int)} {ss : List Nt} (h : DI H t t ks f (t * b) (2 * t) ps rows st) (t0 : 1 ≤ t) (t1 : t ≤ m) (b0 : 0 ≤ b) (fs : isSet H first)
    (hp : rs.Perm rows) (asc : rs.Pairwise fun a b => ltN b.1 a.1 = false) (sp : ss.Perm st) (sasc : ss.Pairwise fun a b => ltN b a = false) : DP H m b t (rs.map (·.1)) first (rs.map (·.2)) ss := by
  have ez : (rs.map (·.1)).zip (rs.map (·.2)) = rs := by
    rw [List.zip_map']
    exact (List.map_congr_left fun _ _ => rfl).trans (List.map_id rs)
  have dis : rs.Pairwise fun a b => a.1 ≠ b.1 := (hp.pairwise_iff fun {a b} q e => q e.symm).mpr h.dis
  have ring : rs.Pairwise fun a b => a.2 = b.2 → lastN a.1 < b.1.1 ∨ lastN b.1 < a.1.1 := (hp.pairwise_iff fun {a b} q e => (q e.symm).symm).mpr h.ring
  have sdis : ss.Pairwise (· ≠ ·) := (sp.pairwise_iff fun {a b} q e => q e.symm).mpr h.stdis
  refine ⟨t0, t1, fs, by simp, ?_, fun n mn => ?_, ?_, fun s ms => ?_, fun k => ?_, by rw [ez]; exact ring, fun s ms => ?_, ?_, (sasc.and sdis).imp fun {a b} q => (ltN_no q.1).resolve_right q.2⟩
  · have := h.few
    have := hp.length_eq
    have : t * b ≤ m * b := Int.mul_le_mul_of_nonneg_right t1 b0
    rw [List.length_map]; omega
  · obtain ⟨r, mr, rfl⟩ := List.mem_map.mp mn
    have := h.note r (hp.mem_iff.mp mr)
    omega
  · rw [List.pairwise_map]
    exact (asc.and dis).imp fun {a b} q => (ltN_no q.1).resolve_right q.2
  · obtain ⟨r, mr, rfl⟩ := List.mem_map.mp ms
    have := h.note r (hp.mem_iff.mp mr)
    omega
  · rw [ez]
    have pm := strsAt_perm hp k
    rw [srtI_perm pm]
    rcases h.hands k with q | q
    · exact .inl q
    · exact .inr (by rw [q] at pm; exact pm.eq_nil)
  · have := h.steps s (sp.mem_iff.mp ms)
    omega
  · have := h.stfew
    have := sp.length_eq
    omega
end
theorem countD_cons (i : Int) (n : Nat) : countD i (n + 1) = .int i :: countD (i + 1) n := by
  unfold countD
  rw [List.range_succ_eq_map, List.map_cons, List.map_map]
  congr 1
  · simp
  · refine List.map_congr_left fun j _ => ?_
    show PyData.int (i + ((j + 1 : Nat) : Int)) = PyData.int (i + 1 + (j : Int))
    congr 1
    omega
theorem eqv_list_nil (zs : List D) : PyData.eqv (.list zs) (.list []) = zs.isEmpty := by
  cases zs <;> rfl
theorem noLst_nt (n : Nt) : noLst (ntD n) = true := rfl
theorem noLsts_map {α : Type} {f : α → D} (h : ∀ a, noLst (f a) = true) (l : List α) : noLsts (l.map f) = true := by
  rw [noLsts_all, List.all_map, List.all_eq_true]
  exact fun a _ => h a
theorem noLsts_mem {l : List D} (h : ∀ a ∈ l, noLst a = true) : noLsts l = true := by
  rw [noLsts_all, List.all_eq_true]
  exact h
theorem sized_of {x : D} {n : Nat} (h : isSized (n : Int) x = true) : ∃ ds, x = .tuple ds ∧ ds.length = n := by
  cases x with
  | tuple ds => exact ⟨ds, rfl, by simp only [isSized, decide_eq_true_eq] at h; omega⟩
  | _ => cases h
theorem seqD_len (c : Bool) (l : List Int) (P : Val → Prop) (h : P (.d (.int l.length))) : bLen [.d (seqD c (l.map .int))] P := by
  cases c with
  | false =>
    show P (.d (.int ((l.map PyData.int).length : Nat)))
    rw [List.length_map]; exact h
  | true =>
    show P (.d (.int ((l.map PyData.int).length : Nat)))
    rw [List.length_map]; exact h
theorem ix_seq {c : Bool} {xs : List D} {j : Int} {d : D} {P : Val → Prop} (e : atI xs j = some d) (h : P (.d d)) : opIx (.d (seqD c xs)) (.d (.int j)) P := by
  cases c with
  | false => exact ix_list e h
  | true => exact ix_tup e h
theorem at_first (a : Int) (r : List Int) : atI ((a :: r).map PyData.int) 0 = some (.int a) := atI_map (f := PyData.int) (l := a :: r) (Int.le_refl 0) (by simp only [List.length_cons]; omega)
theorem at_last (a : Int) (r : List Int) : atI ((a :: r).map PyData.int) (-1) = some (.int ((a :: r).getLast?.getD 0)) := by
  have h1 : ((a :: r).map PyData.int).length = r.length + 1 := by simp
  unfold atI ixN
  rw [h1]
  rw [if_neg (by omega), if_pos (by omega)]
  have e : (-1 + ((r.length + 1 : Nat) : Int)).toNat = r.length := by omega
  show ((a :: r).map PyData.int)[(-1 + ((r.length + 1 : Nat) : Int)).toNat]? = _
  rw [e, List.getElem?_map, List.getLast?_eq_getElem?]
  simp
theorem cut_seq (c : Bool) (l : List Int) (lo hi : Option Int) (P : Val → Prop) (h : ∀ y : Val, toArg y = some (.d (seqD c ((cutG l lo hi).map .int))) → P y) : opSl (.d (seqD c (l.map .int))) lo hi P := by
  have e : cutG (l.map PyData.int) lo hi = (cutG l lo hi).map .int := by
    unfold cutG
    simp [List.map_drop, List.map_take]
  cases c with
  | false =>
    show P (.own (cutG (l.map PyData.int) lo hi))
    rw [e]
    exact h _ rfl
  | true =>
    show P (.d (.tuple (cutG (l.map PyData.int) lo hi)))
    rw [e]
    exact h _ rfl
theorem szr {n : Nat} (h : Nat.ble n 1000 = true := by rfl) : n ≤ sizeLine := szl (Nat.le_of_ble_eq_true h)
theorem sorted_app {l : List Int} {s : Int} {P : Val → Prop} (h : P (.own ((srtI (l ++ [s])).map .int))) : bSorted [.own (l.map .int ++ [.int s])] P := by
  have e : l.map PyData.int ++ [.int s] = (l ++ [s]).map .int := by simp
  show (_ ∧ _) ∧ P (.own (srt (l.map .int ++ [.int s])))
  rw [e]
  refine ⟨alike_ints _, ?_⟩
  rw [srt_ints]
  exact h
theorem strsAt_len (rows : List (Nt × Int)) (k : Int) : (strsAt rows k).length ≤ rows.length := by
  unfold strsAt
  rw [List.length_map]
  exact List.length_filter_le _ _
def lwD (x : Int × Int) : D := .tuple [.int x.1, .int x.2]
theorem len13 {o : List O} (h : o.length = 13) : ∃ a b c d e f g i j k l m n, o = [a, b, c, d, e, f, g, i, j, k, l, m, n] := by
  match o, h with
  | [a, b, c, d, e, f, g, i, j, k, l, m, n], _ => exact ⟨a, b, c, d, e, f, g, i, j, k, l, m, n, rfl⟩
theorem len14 {o : List O} (h : o.length = 14) : ∃ a b c d e f g i j k l m n q, o = [a, b, c, d, e, f, g, i, j, k, l, m, n, q] := by
  match o, h with
  | [a, b, c, d, e, f, g, i, j, k, l, m, n, q], _ => exact ⟨a, b, c, d, e, f, g, i, j, k, l, m, n, q, rfl⟩
end Pd

/-! Ph4: words of scores: what rings, what begins, scores made of scores. -/
namespace Pd
open PySem PySem.Spec PyProof.Rows L2
def ntAt (ns : List Nt) (i : Int) : Nt := ns.getD i.toNat default
def ringsI (ns : List Nt) (k : Int) : List Int := (upto ns.length).filter fun i => decide ((ntAt ns i).1 ≤ k) && decide (k ≤ lastN (ntAt ns i))
def beginsI (ns : List Nt) (k : Int) : List Int := (upto ns.length).filter fun i => decide ((ntAt ns i).1 = k)
/-- the members in order, each once -/
noncomputable def uniq (l : List Int) : List Int := open Classical in if h : ∃ out : List Int, out.Pairwise (· < ·) ∧ ∀ k, k ∈ out ↔ k ∈ l then h.choose else []
theorem uniq_of {l out : List Int} (p : out.Pairwise (· < ·)) (m : ∀ k, k ∈ out ↔ k ∈ l) : uniq l = out := by
  have h : ∃ out : List Int, out.Pairwise (· < ·) ∧ ∀ k, k ∈ out ↔ k ∈ l := ⟨out, p, m⟩
  unfold uniq
  rw [dif_pos h]
  obtain ⟨q, n⟩ := h.choose_spec
  exact asc_eq q p fun k => (n k).trans (m k).symm
def upN (s : Int) (n : Nt) : Nt := (n.1, n.2.1 + s, n.2.2)
def laterN (s : Int) (n : Nt) : Nt := (n.1 + s, n.2.1, n.2.2)
def earlierN (s : Int) (n : Nt) : Nt := (n.1 - s, n.2.1, n.2.2)
def Chk (y : D) (P : Val → Prop) (Ex : Xn → Prop) : Prop := (sFault y = none ∧ P (.d y)) ∨ ∃ e, sFault y = some e ∧ Ex e
def Φ_last_tick : Fs := fun ys P _ => ∃ n : Nt, ys = [.d (ntD n)] ∧ P (.d (.int (lastN n)))
def Φ_rings_at : Fs := fun ys P _ => ∃ t ns, ∃ k : Int, ys = [.d (scoD t ns), .d (.int k)] ∧ P (.d (.tuple ((ringsI ns k).map .int)))
def Φ_begins_at : Fs := fun ys P _ => ∃ t ns, ∃ k : Int, ys = [.d (scoD t ns), .d (.int k)] ∧ P (.d (.tuple ((beginsI ns k).map .int)))
def pitchesI (ns : List Nt) (l : List Int) : List Int := l.map fun i => (ntAt ns i).2.1
def Φ_pitches_at : Fs := fun ys P _ => ∃ t ns, ∃ k : Int, ys = [.d (scoD t ns), .d (.int k)] ∧ (ringsI ns k).length < 64 ∧ P (.d (.tuple ((uniq (pitchesI ns (ringsI ns k))).map .int)))
def Φ_raised : Fs := fun ys P Ex => ∃ t ns, ∃ x, ys = [.d (scoD t ns), .d x] ∧ ((isNum x = false ∧ Ex noth) ∨ ∃ s : Int, x = .int s ∧ Chk (scoD t (ns.map (upN s))) P Ex)
def Φ_from_tick : Fs := fun ys P Ex => ∃ t ns, ∃ x, ys = [.d (scoD t ns), .d x] ∧ ((∃ k : Int, x = .int k ∧ 0 ≤ k ∧ k < t ∧ P (.d (scoD (t - k) ((ns.filter fun n => decide (k ≤ n.1)).map (earlierN k))))) ∨ (inIx x t = false ∧ Ex noth))
def Φ_joined : Fs := fun ys P Ex => ∃ t ns u ms, ys = [.d (scoD t ns), .d (scoD u ms)] ∧ ns.length + ms.length ≤ 1000 ∧ Chk (scoD (t + u) (ns ++ ms.map (laterN t))) P Ex
def Φ_with_note : Fs := fun ys P Ex => ∃ t ns, ∃ x, ys = [.d (scoD t ns), .d x] ∧ ns.length ≤ 900 ∧ ((∃ n : Nt, x = ntD n ∧ isNote x = true ∧ n ∉ ns ∧ Chk (.tuple [.int t, .tuple (srt ((ns ++ [n]).map ntD))]) P Ex) ∨ ((isNote x = false ∨ ∃ n ∈ ns, x = ntD n) ∧ Ex noth))
def Φ_without_note : Fs := fun ys P Ex => ∃ t ns, ∃ x, ys = [.d (scoD t ns), .d x] ∧ ns.length ≤ 900 ∧ ((∃ k : Int, x = .int k ∧ 0 ≤ k ∧ k < ns.length ∧ P (.d (scoD t (ns.take k.toNat ++ ns.drop (k.toNat + 1))))) ∨ (inIx x ns.length = false ∧ Ex noth))
/-- the most that ring at one tick, and the first such tick -/
structure Loud (t : Int) (ns : List Nt) (m k : Int) : Prop where
  k0 : 0 ≤ k
  k1 : k < t
  eq : m = (ringsI ns k).length
  most : ∀ j, 0 ≤ j → j < t → ((ringsI ns j).length : Int) ≤ m
  first : ∀ j, 0 ≤ j → j < k → ((ringsI ns j).length : Int) < m
theorem Loud.one {t : Int} {ns : List Nt} {m k m' k' : Int} (h : Loud t ns m k) (h' : Loud t ns m' k') : m = m' ∧ k = k' := by
  have a := h.most k' h'.k0 h'.k1
  have b := h'.most k h.k0 h.k1
  have e := h.eq
  have e' := h'.eq
  refine ⟨by omega, ?_⟩
  rcases Int.lt_trichotomy k k' with z | z | z
  · have := h'.first k h.k0 z; omega
  · exact z
  · have := h.first k' h'.k0 z; omega
def Φ_loudest : Fs := fun ys P _ => ∃ t ns, ys = [.d (scoD t ns)] ∧ 1 ≤ t ∧ t ≤ 500 ∧ ∀ m k, Loud t ns m k → P (.d (.tuple [.int m, .int k]))
def spanD : List Nt → D
  | [] => .none
  | n :: ns => .tuple [.int ((ns.map fun n => n.2.1).foldl min n.2.1), .int ((ns.map fun n => n.2.1).foldl max n.2.1)]
def Φ_span_of : Fs := fun ys P _ => ∃ t ns, ys = [.d (scoD t ns)] ∧ P (.d (spanD ns))
def noteOk (t : Int) (n : Nt) : Bool := decide (-1 ≤ n.2.1 ∧ n.2.1 ≤ 599) && decide (n.1 + n.2.2 ≤ t)
def cFault (t : Int) (ns : List Nt) (k : Int) : Option D := if noteOk t (ntAt ns k) = true then none else some (.tuple [.str "score", .int k, .str (if -1 ≤ (ntAt ns k).2.1 ∧ (ntAt ns k).2.1 ≤ 599 then "length" else "pitch")])
def chkD (t : Int) (ns : List Nt) : D := if 64 < t then .tuple [.str "large", .str "ticks", .int 64] else if 120 < ns.length then .tuple [.str "large", .str "notes", .int 120] else ((upto ns.length).findSome? (cFault t ns)).getD (.tuple [.str "told", scoD t ns])
def Φ__law_checked : Fs := fun ys P _ => ∃ t ns, ys = [.d (scoD t ns)] ∧ P (.d (chkD t ns))
theorem depthAll_nts : ∀ l : List Nt, PyData.depthAll (l.map ntD) ≤ 1
  | [] => Nat.zero_le _
  | n :: l => by
    rw [List.map_cons, PyData.depthAll]
    have := depthAll_nts l
    have e : (ntD n).depth = 1 := depth_nt n
    omega
theorem tv_chain_le {wa wb wc : WE} {ρ : Ev} {P : Bool → Prop} {Ex : Xn → Prop} {a b c : Int} (ha : ∀ (Q : Val → Prop) (E : Xn → Prop), Q (.d (.int a)) → wa ρ Q E) (hb : ∀ (Q : Val → Prop) (E : Xn → Prop), Q (.d (.int b)) → wb ρ Q E) (hc : ∀ (Q : Val → Prop) (E : Xn → Prop), Q (.d (.int c)) → wc ρ Q E) (h : P (decide (a ≤ b) && decide (b ≤ c))) : wTv (wChain opLe opLe wa wb wc) ρ P Ex := by
  unfold wTv wChain
  refine ha _ _ (hb _ _ ?_)
  simp only [opLe, opCmp, Val.rd]
  cases e : decide (a ≤ b) with
  | true =>
    rw [e] at h
    exact hc _ _ h
  | false =>
    rw [e] at h
    exact h
theorem tv_chain_lt {wa wb wc : WE} {ρ : Ev} {P : Bool → Prop} {Ex : Xn → Prop} {a b c : Int} (ha : ∀ (Q : Val → Prop) (E : Xn → Prop), Q (.d (.int a)) → wa ρ Q E) (hb : ∀ (Q : Val → Prop) (E : Xn → Prop), Q (.d (.int b)) → wb ρ Q E) (hc : ∀ (Q : Val → Prop) (E : Xn → Prop), Q (.d (.int c)) → wc ρ Q E) (h : P (decide (a ≤ b) && decide (b < c))) : wTv (wChain opLe opLt wa wb wc) ρ P Ex := by
  unfold wTv wChain
  refine ha _ _ (hb _ _ ?_)
  simp only [opLe, opLt, opCmp, Val.rd]
  cases e : decide (a ≤ b) with
  | true =>
    rw [e] at h
    exact hc _ _ h
  | false =>
    rw [e] at h
    exact h
theorem sco_map (t : Int) (ns : List Nt) (f : Nt → Nt) : scoD t (ns.map f) = .tuple [.int t, .tuple (ns.map fun n => ntD (f n))] := by
  unfold scoD
  rw [List.map_map]
  rfl
/-- pairs of whole numbers -/
def prD (x : Int × Int) : D := .tuple [.int x.1, .int x.2]
def ltP (a b : Int × Int) : Bool := decide (a.1 < b.1) || (!decide (b.1 < a.1) && decide (a.2 < b.2))
theorem dataLt_pr (a b : Int × Int) : PySem.W.dataLt (prD a) (prD b) = ltP a b := by
  simp [PySem.W.dataLt, prD, PySem.W.keyToks, PySem.W.keyToksAll, PyProof.Rows.lexLt, PyProof.Rows.itemOrd, PyProof.Rows.itemLt, ltP]
theorem ltP_iff {a b : Int × Int} : ltP a b = true ↔ a.1 < b.1 ∨ (a.1 = b.1 ∧ a.2 < b.2) := by
  unfold ltP
  simp only [Bool.or_eq_true, Bool.and_eq_true, Bool.not_eq_true', decide_eq_true_eq, decide_eq_false_iff_not]
  omega
def minP (x : Int × Int) (xs : List (Int × Int)) : Int × Int := xs.foldl (fun a y => if ltP y a then y else a) x
theorem minD_pr : ∀ (xs : List (Int × Int)) (x : Int × Int), PySem.W.minD (prD x) (xs.map prD) = prD (minP x xs)
  | [], _ => rfl
  | y :: ys, x => by
    have h := minD_pr ys (if ltP y x then y else x)
    unfold PySem.W.minD minP at h ⊢
    rw [List.map_cons, List.foldl_cons, List.foldl_cons, dataLt_pr]
    rw [← h]
    congr 1
    split <;> rfl
theorem minP_mem : ∀ (xs : List (Int × Int)) (x : Int × Int), minP x xs ∈ x :: xs
  | [], x => List.mem_cons_self
  | y :: ys, x => by
    have h := minP_mem ys (if ltP y x then y else x)
    show minP (if ltP y x then y else x) ys ∈ _
    rcases List.mem_cons.mp h with e | h
    · rw [e]
      split
      · exact List.mem_cons_of_mem _ List.mem_cons_self
      · exact List.mem_cons_self
    · exact List.mem_cons_of_mem _ (List.mem_cons_of_mem _ h)
theorem minP_le : ∀ (xs : List (Int × Int)) (x z : Int × Int), z ∈ x :: xs → ltP z (minP x xs) = false
  | [], x, z, h => by
    rw [List.mem_singleton.mp h]
    show ltP x x = false
    rw [Bool.eq_false_iff]
    intro q
    rw [ltP_iff] at q
    omega
  | y :: ys, x, z, h => by
    show ltP z (minP (if ltP y x = true then y else x) ys) = false
    have ih := minP_le ys (if ltP y x = true then y else x)
    have top := ih _ List.mem_cons_self
    generalize minP (if ltP y x = true then y else x) ys = m at ih top ⊢
    rcases List.mem_cons.mp h with rfl | h
    · rw [Bool.eq_false_iff] at top ⊢
      intro q
      apply top
      by_cases c : ltP y z = true
      · rw [if_pos c]
        rw [ltP_iff] at c q ⊢
        omega
      · rw [if_neg c]
        exact q
    · rcases List.mem_cons.mp h with rfl | h
      · rw [Bool.eq_false_iff] at top ⊢
        intro q
        apply top
        by_cases c : ltP z x = true
        · rw [if_pos c]
          exact q
        · rw [if_neg c]
          rw [ltP_iff] at c q ⊢
          omega
      · exact ih z (List.mem_cons_of_mem _ h)
theorem alike_prs (l : List (Int × Int)) : PySem.W.AlikeAll (l.map prD) ∧ PyData.depthAll (l.map prD) ≤ 1 := by
  refine ⟨⟨fun x hx y hy => ?_, fun x hx => ?_⟩, ?_⟩
  · obtain ⟨a, _, rfl⟩ := List.mem_map.mp hx
    obtain ⟨b, _, rfl⟩ := List.mem_map.mp hy
    rfl
  · obtain ⟨a, _, rfl⟩ := List.mem_map.mp hx
    unfold prD
    simp
  · induction l with
    | nil => exact Nat.zero_le _
    | cons a l ih =>
      rw [List.map_cons, PyData.depthAll]
      have e : (prD a).depth = 1 := rfl
      omega
theorem alike_is (l : List Int) : PySem.W.AlikeAll (l.map PyData.int) ∧ PyData.depthAll (l.map PyData.int) ≤ 100 := by
  refine ⟨⟨fun x hx y hy => ?_, fun x hx => ?_⟩, ?_⟩
  · obtain ⟨a, _, rfl⟩ := List.mem_map.mp hx
    obtain ⟨b, _, rfl⟩ := List.mem_map.mp hy
    rfl
  · obtain ⟨a, _, rfl⟩ := List.mem_map.mp hx
    simp
  · induction l with
    | nil => exact Nat.zero_le _
    | cons a l ih =>
      rw [List.map_cons, PyData.depthAll]
      have e : (PyData.int a).depth = 0 := rfl
      omega
theorem map_int_inj : ∀ {a b : List Int}, a.map PyData.int = b.map PyData.int → a = b
  | [], [], _ => rfl
  | [], _ :: _, h => by cases h
  | _ :: _, [], h => by cases h
  | x :: a, y :: b, h => by
    simp only [List.map_cons, List.cons.injEq, PyData.int.injEq] at h
    rw [h.1, map_int_inj h.2]
/-- a loop that returns at the first item that fails -/
theorem forW_any {b : WB} {body : WS} {E : En} {p : D → Bool} {Rt : Prop} (Sh : Ev → Prop) : ∀ {xs : List D}, (∀ d ∈ xs, ∀ ρ (K : Ev → Prop), Sh ρ → (p d = true → Rt) → (p d = false → ∀ ρ', Sh ρ' → K ρ') → b ρ d fun ρ' => body { E with nx := K, ct := K, bk := E.nx } ρ') →
    (xs.any p = true → Rt) → (xs.any p = false → ∀ ρ, Sh ρ → E.nx ρ) → ∀ ρ, Sh ρ → forW b body E xs ρ
  | [], _, h1, h2, ρ, s => h2 rfl ρ s
  | d :: xs, st, h1, h2, ρ, s => by
    refine st d List.mem_cons_self ρ (forW b body E xs) s (fun e => h1 (by rw [List.any_cons, e]; rfl)) (fun e ρ' s' => ?_)
    exact forW_any Sh (fun a m => st a (List.mem_cons_of_mem _ m)) (fun z => h1 (by rw [List.any_cons, z, Bool.or_true])) (fun z => h2 (by rw [List.any_cons, z, e]; rfl)) ρ' s'
/-- a loop that returns at the first item that tells something -/
theorem forW_some {α β : Type} {b : WB} {body : WS} {E : En} {f : α → D} {p : α → Option β} {Rt : β → Prop} (Sh : Ev → Prop) : ∀ {xs : List α}, (∀ a ∈ xs, ∀ ρ (K : Ev → Prop), Sh ρ → (match p a with
    | some e => Rt e
    | none => ∀ ρ', Sh ρ' → K ρ') → b ρ (f a) fun ρ' => body { E with nx := K, ct := K, bk := E.nx } ρ') →
    (match xs.findSome? p with
    | some e => Rt e
    | none => ∀ ρ, Sh ρ → E.nx ρ) → ∀ ρ, Sh ρ → forW b body E (xs.map f) ρ
  | [], _, h, ρ, s => h ρ s
  | a :: xs, st, h, ρ, s => by
    rw [List.map_cons]
    refine st a List.mem_cons_self ρ (forW b body E (xs.map f)) s ?_
    rw [List.findSome?_cons] at h
    cases e : p a with
    | some c => rw [e] at h; exact h
    | none => rw [e] at h; exact fun ρ' s' => forW_some Sh (fun a m => st a (List.mem_cons_of_mem _ m)) h ρ' s'
theorem isIndex_no {a : D} (h : isNum a = false) : isIndex a = false := by
  cases a with
  | int i => cases h
  | _ => rfl
theorem isPosI_no {a : D} (h : isNum a = false) : isPosI a = false := by
  cases a with
  | int i => cases h
  | _ => rfl
theorem form_two {ds : List D} (h : ds.length ≠ 2) : isScoreForm (.tuple ds) = false := by
  unfold isScoreForm
  split
  · rename_i heq; cases heq; exact absurd rfl h
  · rfl
theorem note_three {ds : List D} (h : ds.length ≠ 3) : isNote (.tuple ds) = false := by
  unfold isNote
  split
  · rename_i heq; cases heq; exact absurd rfl h
  · rfl
theorem form_ab (a b : D) (h : isIndex a = false ∨ isTupleD b = false) : isScoreForm (.tuple [a, b]) = false := by
  unfold isScoreForm
  split
  · rename_i heq
    cases heq
    rcases h with h | h
    · rw [h]; rfl
    · cases h
  · rfl
end Pd

namespace Pd
open PySem PySem.Spec PyProof.Rows L2
def cs4 : Clz := [("BadScore", "score", ["number", "fault"]), ("Nothing", "nothing", []), ("TooLarge", "large", ["what", "limit"])]
def top (i : Nat) : Stmt := PySem.Challenge.pw_sevenpedals_k04_words_of_scores.main.body.getD i (.Pass ⟨0, 0, 0, 0⟩)
structure Bs (mg : Str → Option Value) : Prop where
  b_abs : mg "abs" = none
  b_all : mg "all" = none
  b_bool : mg "bool" = none
  b_enumerate : mg "enumerate" = none
  b_int : mg "int" = none
  b_isinstance : mg "isinstance" = none
  b_len : mg "len" = none
  b_list : mg "list" = none
  b_max : mg "max" = none
  b_min : mg "min" = none
  b_range : mg "range" = none
  b_repr : mg "repr" = none
  b_set : mg "set" = none
  b_sorted : mg "sorted" = none
  b_tuple : mg "tuple" = none
  b_zip : mg "zip" = none
abbrev si_BadScore : Stmt := inner (top 3) 0
set_option maxHeartbeats 4000000 in
theorem it_BadScore {P : Program} (t : (P.main.scope.names.lookup ("super" : Str)).isSome = false) : IniT P si_BadScore "number" "fault" := ⟨⟨_, _, _, _, _, _, _, _, _, _, _, _, _, _, _, rfl, rfl⟩, fun _ _ _ _ _ _ _ _ _ _ _ => rfl, rfl, rfl, rfl, rfl, by decide +kernel, rfl, rfl, rfl, rfl, rfl, t, by decide, by decide, by decide, by decide, by decide⟩
abbrev si_TooLarge : Stmt := inner (top 5) 0
set_option maxHeartbeats 4000000 in
theorem it_TooLarge {P : Program} (t : (P.main.scope.names.lookup ("super" : Str)).isSome = false) : IniT P si_TooLarge "what" "limit" := ⟨⟨_, _, _, _, _, _, _, _, _, _, _, _, _, _, _, rfl, rfl⟩, fun _ _ _ _ _ _ _ _ _ _ _ => rfl, rfl, rfl, rfl, rfl, by decide +kernel, rfl, rfl, rfl, rfl, rfl, t, by decide, by decide, by decide, by decide, by decide⟩
section
variable {P : Program} {w : World} {K : PySem.W.Frag} {mg : Str → Option Value} {base : Heap} {TT : List (Addr × Str)}
abbrev kc : Nat := 12
abbrev st_is_number : Stmt := top 7
def N_is_number : List Str := ["thing"]
theorem sc_is_number : FnScope N_is_number ["thing"] (defScope st_is_number) := ⟨rfl, rfl, rfl, by decide +kernel, rfl, by decide +kernel, by decide +kernel⟩
def w_is_number : WS := (wRet (wAnd (wIsi isIntD (wVar 0)) (wNot (wIsi isBoolD (wVar 0)))))
def V_is_number : Prop := ∀ (ys : List Val) (R : Val → Prop) (Ex : Xn → Prop), ys.length = 1 → ys.all argOk = true → Φ_is_number ys R Ex → w_is_number (endW R Ex) (start0 N_is_number ys)
set_option maxHeartbeats 4000000 in
theorem s_is_number (B : Bs mg) (S : Src K mg "is_number" "is_number" st_is_number ["thing"]) (v : V_is_number) : Dfn P w K mg base TT kc "is_number" 1 1 Φ_is_number := by
  refine dfn_of (k := 0) S sc_is_number (fun f cdv A outer s H E Z ow hm hc hr hT gr => ?_) v
  have tk := takes_of (X := cxOf (L2.CX P w) P w K mg base N_is_number "is_number" (defScope st_is_number) f cdv A outer s H E) rfl rfl rfl rfl
  have po : PassesOwn (model P w) (cxOf (L2.CX P w) P w K mg base N_is_number "is_number" (defScope st_is_number) f cdv A outer s H E).A (cxOf (L2.CX P w) P w K mg base N_is_number "is_number" (defScope st_is_number) f cdv A outer s H E).env (cxOf (L2.CX P w) P w K mg base N_is_number "is_number" (defScope st_is_number) f cdv A outer s H E).xe := passes_of rfl
  have hu := room_hu hr
  skip
  exact (sim_bone (sim_ret (sim_vand (sim_isi ci_int rfl B.b_isinstance rfl B.b_int (by decide +kernel) (sim_var 0)) (sim_vone (sim_vnot (sim_isi ci_bool rfl B.b_isinstance rfl B.b_bool (by decide +kernel) (sim_var 0)))))))
abbrev st_is_index : Stmt := top 8
def N_is_index : List Str := ["thing"]
theorem sc_is_index : FnScope N_is_index ["thing"] (defScope st_is_index) := ⟨rfl, rfl, rfl, by decide +kernel, rfl, by decide +kernel, by decide +kernel⟩
def w_is_index : WS := (wRet (wAnd (wCall 1 Φ_is_number (wCons (wVar 0) wNil)) (wOp opGe (wVar 0) (wC (.int 0)))))
def V_is_index : Prop := ∀ (ys : List Val) (R : Val → Prop) (Ex : Xn → Prop), ys.length = 1 → ys.all argOk = true → Φ_is_index ys R Ex → w_is_index (endW R Ex) (start0 N_is_index ys)
set_option maxHeartbeats 4000000 in
theorem s_is_index (B : Bs mg) (S : Src K mg "is_index" "is_index" st_is_index ["thing"]) (d_is_number : Dfn P w K mg base TT kc "is_number" 1 1 Φ_is_number) (v : V_is_index) : Dfn P w K mg base TT kc "is_index" 2 1 Φ_is_index := by
  refine dfn_of (k := 1) S sc_is_index (fun f cdv A outer s H E Z ow hm hc hr hT gr => ?_) v
  have tk := takes_of (X := cxOf (L2.CX P w) P w K mg base N_is_index "is_index" (defScope st_is_index) f cdv A outer s H E) rfl rfl rfl rfl
  have po : PassesOwn (model P w) (cxOf (L2.CX P w) P w K mg base N_is_index "is_index" (defScope st_is_index) f cdv A outer s H E).A (cxOf (L2.CX P w) P w K mg base N_is_index "is_index" (defScope st_is_index) f cdv A outer s H E).env (cxOf (L2.CX P w) P w K mg base N_is_index "is_index" (defScope st_is_index) f cdv A outer s H E).xe := passes_of rfl
  have hu := room_hu hr
  skip
  exact (sim_bone (sim_ret (sim_vand (sim_callD d_is_number hT hr (by decide) tk rfl (sim_cons (sim_var 0) sim_nil)) (sim_vone (sim_cmp or_ge (sim_var 0) sim_int)))))
abbrev st_is_sized : Stmt := top 9
def N_is_sized : List Str := ["thing", "many"]
theorem sc_is_sized : FnScope N_is_sized ["thing", "many"] (defScope st_is_sized) := ⟨rfl, rfl, rfl, by decide +kernel, rfl, by decide +kernel, by decide +kernel⟩
def w_is_sized : WS := (wRet (wAnd (wIsi isTupleD (wVar 0)) (wOp opEq (wCB bLen (wCons (wVar 0) wNil)) (wVar 1))))
def V_is_sized : Prop := ∀ (ys : List Val) (R : Val → Prop) (Ex : Xn → Prop), ys.length = 2 → ys.all argOk = true → Φ_is_sized ys R Ex → w_is_sized (endW R Ex) (start0 N_is_sized ys)
set_option maxHeartbeats 4000000 in
theorem s_is_sized (B : Bs mg) (S : Src K mg "is_sized" "is_sized" st_is_sized ["thing", "many"]) (v : V_is_sized) : Dfn P w K mg base TT kc "is_sized" 1 2 Φ_is_sized := by
  refine dfn_of (k := 0) S sc_is_sized (fun f cdv A outer s H E Z ow hm hc hr hT gr => ?_) v
  have tk := takes_of (X := cxOf (L2.CX P w) P w K mg base N_is_sized "is_sized" (defScope st_is_sized) f cdv A outer s H E) rfl rfl rfl rfl
  have po : PassesOwn (model P w) (cxOf (L2.CX P w) P w K mg base N_is_sized "is_sized" (defScope st_is_sized) f cdv A outer s H E).A (cxOf (L2.CX P w) P w K mg base N_is_sized "is_sized" (defScope st_is_sized) f cdv A outer s H E).env (cxOf (L2.CX P w) P w K mg base N_is_sized "is_sized" (defScope st_is_sized) f cdv A outer s H E).xe := passes_of rfl
  have hu := room_hu hr
  skip
  exact (sim_bone (sim_ret (sim_vand (sim_isi ci_tuple rfl B.b_isinstance rfl B.b_tuple (by decide +kernel) (sim_var 0)) (sim_vone (sim_cmp (or_eq (room_hu hr)) (sim_callB cd_len rfl B.b_len (by decide +kernel) (sim_cons (sim_var 0) sim_nil)) (sim_var 1))))))
abbrev st_is_tuple_of : Stmt := top 10
def N_is_tuple_of : List Str := ["thing", "is_one", "one"]
theorem sc_is_tuple_of : FnScope N_is_tuple_of ["thing", "is_one"] (defScope st_is_tuple_of) := ⟨rfl, rfl, rfl, by decide +kernel, rfl, by decide +kernel, by decide +kernel⟩
def psc_is_tuple_of_31_44 : Scope := { kind := PySem.ScopeKind.function, names := [ (PySem.Str.ofString ".0", PySem.NameKind.local), (PySem.Str.ofString "one", PySem.NameKind.local), (PySem.Str.ofString "is_one", PySem.NameKind.free)], isGenerator := false, isCoroutine := false, more := [] : PySem.Scope }
def w_is_tuple_of : WS := (wRet (wAnd (wIsi isTupleD (wVar 0)) (wCB bAll (wCons (wLc (wIt (wVar 0)) (bName 2) wYes (wCallV 1 (wVar 2)) [2]) wNil))))
def V_is_tuple_of : Prop := ∀ (ys : List Val) (R : Val → Prop) (Ex : Xn → Prop), ys.length = 2 → ys.all argOk = true → Φ_is_tuple_of ys R Ex → w_is_tuple_of (endW R Ex) (start0 N_is_tuple_of ys)
set_option maxHeartbeats 4000000 in
theorem s_is_tuple_of (B : Bs mg) (S : Src K mg "is_tuple_of" "is_tuple_of" st_is_tuple_of ["thing", "is_one"]) (v : V_is_tuple_of) : Dfn P w K mg base TT kc "is_tuple_of" 13 2 Φ_is_tuple_of := by
  refine dfn_of (k := 12) S sc_is_tuple_of (fun f cdv A outer s H E Z ow hm hc hr hT gr => ?_) v
  have tk := takes_of (X := cxOf (L2.CX P w) P w K mg base N_is_tuple_of "is_tuple_of" (defScope st_is_tuple_of) f cdv A outer s H E) rfl rfl rfl rfl
  have po : PassesOwn (model P w) (cxOf (L2.CX P w) P w K mg base N_is_tuple_of "is_tuple_of" (defScope st_is_tuple_of) f cdv A outer s H E).A (cxOf (L2.CX P w) P w K mg base N_is_tuple_of "is_tuple_of" (defScope st_is_tuple_of) f cdv A outer s H E).env (cxOf (L2.CX P w) P w K mg base N_is_tuple_of "is_tuple_of" (defScope st_is_tuple_of) f cdv A outer s H E).xe := passes_of rfl
  have hu := room_hu hr
  skip
  exact (sim_bone (sim_ret (sim_vand (sim_isi ci_tuple rfl B.b_isinstance rfl B.b_tuple (by decide +kernel) (sim_var 0)) (sim_vone (sim_callB (cd_all rfl) rfl B.b_all (by decide +kernel) (sim_cons (sim_lc (own := [("one", 2)]) rfl sc_is_tuple_of.nd gr (sim_it (sim_var 0)) (blkOk_by (N := N_is_tuple_of) (sc := defScope st_is_tuple_of) (by decide +kernel)) (by decide) (fun s H C cl fp => (sim_bname 2 sc_is_tuple_of.nd)) (fun s H C cl fp => sim_tsnil) (fun s H C cl fp => (sim_callV 1 (hr.mono (by decide)) (sim_var 2) LamX.takes0))) sim_nil))))))
abbrev st_is_note : Stmt := top 11
def N_is_note : List Str := ["thing"]
theorem sc_is_note : FnScope N_is_note ["thing"] (defScope st_is_note) := ⟨rfl, rfl, rfl, by decide +kernel, rfl, by decide +kernel, by decide +kernel⟩
def w_is_note : WS := (wRet (wAnd (wCall 2 Φ_is_sized (wCons (wVar 0) (wCons (wC (.int 3)) wNil))) (wAnd (wCall 1 Φ_is_index (wCons (wOp opIx (wVar 0) (wC (.int 0))) wNil)) (wAnd (wCall 1 Φ_is_number (wCons (wOp opIx (wVar 0) (wC (.int 1))) wNil)) (wAnd (wCall 1 Φ_is_index (wCons (wOp opIx (wVar 0) (wC (.int 2))) wNil)) (wOp opGt (wOp opIx (wVar 0) (wC (.int 2))) (wC (.int 0))))))))
def V_is_note : Prop := ∀ (ys : List Val) (R : Val → Prop) (Ex : Xn → Prop), ys.length = 1 → ys.all argOk = true → Φ_is_note ys R Ex → w_is_note (endW R Ex) (start0 N_is_note ys)
set_option maxHeartbeats 4000000 in
theorem s_is_note (B : Bs mg) (S : Src K mg "is_note" "is_note" st_is_note ["thing"]) (d_is_sized : Dfn P w K mg base TT kc "is_sized" 1 2 Φ_is_sized) (d_is_index : Dfn P w K mg base TT kc "is_index" 2 1 Φ_is_index) (d_is_number : Dfn P w K mg base TT kc "is_number" 1 1 Φ_is_number) (v : V_is_note) : Dfn P w K mg base TT kc "is_note" 3 1 Φ_is_note := by
  refine dfn_of (k := 2) S sc_is_note (fun f cdv A outer s H E Z ow hm hc hr hT gr => ?_) v
  have tk := takes_of (X := cxOf (L2.CX P w) P w K mg base N_is_note "is_note" (defScope st_is_note) f cdv A outer s H E) rfl rfl rfl rfl
  have po : PassesOwn (model P w) (cxOf (L2.CX P w) P w K mg base N_is_note "is_note" (defScope st_is_note) f cdv A outer s H E).A (cxOf (L2.CX P w) P w K mg base N_is_note "is_note" (defScope st_is_note) f cdv A outer s H E).env (cxOf (L2.CX P w) P w K mg base N_is_note "is_note" (defScope st_is_note) f cdv A outer s H E).xe := passes_of rfl
  have hu := room_hu hr
  skip
  exact (sim_bone (sim_ret (sim_vand (sim_callD d_is_sized hT hr (by decide) tk rfl (sim_cons (sim_var 0) (sim_cons sim_int sim_nil))) (sim_vand (sim_callD d_is_index hT hr (by decide) tk rfl (sim_cons (sim_ix (sim_var 0) sim_int) sim_nil)) (sim_vand (sim_callD d_is_number hT hr (by decide) tk rfl (sim_cons (sim_ix (sim_var 0) sim_int) sim_nil)) (sim_vand (sim_callD d_is_index hT hr (by decide) tk rfl (sim_cons (sim_ix (sim_var 0) sim_int) sim_nil)) (sim_vone (sim_cmp or_gt (sim_ix (sim_var 0) sim_int) sim_int))))))))
abbrev st_is_score_form : Stmt := top 12
def N_is_score_form : List Str := ["thing"]
theorem sc_is_score_form : FnScope N_is_score_form ["thing"] (defScope st_is_score_form) := ⟨rfl, rfl, rfl, by decide +kernel, rfl, by decide +kernel, by decide +kernel⟩
def w_is_score_form : WS := (wRet (wAnd (wCall 2 Φ_is_sized (wCons (wVar 0) (wCons (wC (.int 2)) wNil))) (wAnd (wCall 1 Φ_is_index (wCons (wOp opIx (wVar 0) (wC (.int 0))) wNil)) (wCall 2 Φ_is_tuple_of (wCons (wOp opIx (wVar 0) (wC (.int 1))) (wCons (wFnA φ_is_note) wNil))))))
def V_is_score_form : Prop := ∀ (ys : List Val) (R : Val → Prop) (Ex : Xn → Prop), ys.length = 1 → ys.all argOk = true → Φ_is_score_form ys R Ex → w_is_score_form (endW R Ex) (start0 N_is_score_form ys)
set_option maxHeartbeats 4000000 in
theorem s_is_score_form (B : Bs mg) (S : Src K mg "is_score_form" "is_score_form" st_is_score_form ["thing"]) (d_is_sized : Dfn P w K mg base TT kc "is_sized" 1 2 Φ_is_sized) (d_is_index : Dfn P w K mg base TT kc "is_index" 2 1 Φ_is_index) (d_is_tuple_of : Dfn P w K mg base TT kc "is_tuple_of" 13 2 Φ_is_tuple_of) (d_is_note : Dfn P w K mg base TT kc "is_note" 3 1 Φ_is_note) (v : V_is_score_form) : Dfn P w K mg base TT kc "is_score_form" 14 1 Φ_is_score_form := by
  refine dfn_of (k := 13) S sc_is_score_form (fun f cdv A outer s H E Z ow hm hc hr hT gr => ?_) v
  have tk := takes_of (X := cxOf (L2.CX P w) P w K mg base N_is_score_form "is_score_form" (defScope st_is_score_form) f cdv A outer s H E) rfl rfl rfl rfl
  have po : PassesOwn (model P w) (cxOf (L2.CX P w) P w K mg base N_is_score_form "is_score_form" (defScope st_is_score_form) f cdv A outer s H E).A (cxOf (L2.CX P w) P w K mg base N_is_score_form "is_score_form" (defScope st_is_score_form) f cdv A outer s H E).env (cxOf (L2.CX P w) P w K mg base N_is_score_form "is_score_form" (defScope st_is_score_form) f cdv A outer s H E).xe := passes_of rfl
  have hu := room_hu hr
  skip
  exact (sim_bone (sim_ret (sim_vand (sim_callD d_is_sized hT hr (by decide) tk rfl (sim_cons (sim_var 0) (sim_cons sim_int sim_nil))) (sim_vand (sim_callD d_is_index hT hr (by decide) tk rfl (sim_cons (sim_ix (sim_var 0) sim_int) sim_nil)) (sim_vone (sim_callD d_is_tuple_of hT hr (by decide) tk rfl (sim_cons (sim_ix (sim_var 0) sim_int) (sim_cons (sim_fnA d_is_note hT (by decide) rfl φ_is_note_ok) sim_nil))))))))
abbrev st_check_note : Stmt := top 18
def N_check_note : List Str := ["score", "number", "tick", "pitch", "length"]
theorem sc_check_note : FnScope N_check_note ["score", "number"] (defScope st_check_note) := ⟨rfl, rfl, rfl, by decide +kernel, rfl, by decide +kernel, by decide +kernel⟩
def w_check_note_1 : WS := (wSeq (wIfS (wTnot (wTv (wChain opLe opLe (wC (.int (-1))) (wVar 3) (wC (.int 599))))) (wRaise2 "BadScore" "number" "fault" (wCons (wVar 1) (wCons (wC (.str "pitch")) wNil))) wSkip) (wIfS (wTv (wOp opGt (wOp opAdd (wVar 2) (wVar 4)) (wOp opIx (wVar 0) (wC (.int 0))))) (wRaise2 "BadScore" "number" "fault" (wCons (wVar 1) (wCons (wC (.str "length")) wNil))) wSkip))
def w_check_note_2 : WS := (wSeq (wIfS (wTand (wTv (wOp opGt (wVar 1) (wC (.int 0)))) (wTv (wOp opLeD (wOp opIx (wOp opIx (wVar 0) (wC (.int 1))) (wVar 1)) (wOp opIx (wOp opIx (wVar 0) (wC (.int 1))) (wOp opSub (wVar 1) (wC (.int 1))))))) (wRaise2 "BadScore" "number" "fault" (wCons (wVar 1) (wCons (wC (.str "order")) wNil))) wSkip) w_check_note_1)
def w_check_note : WS := (wSeq (wAsg (bTup (bCons (bName 2) (bCons (bName 3) (bCons (bName 4) bNil)))) (wOp opIx (wOp opIx (wVar 0) (wC (.int 1))) (wVar 1))) w_check_note_2)
def V_check_note : Prop := ∀ (ys : List Val) (R : Val → Prop) (Ex : Xn → Prop), ys.length = 2 → ys.all argOk = true → Φ_check_note ys R Ex → w_check_note (endW R Ex) (start0 N_check_note ys)
set_option maxHeartbeats 4000000 in
theorem s_check_note (B : Bs mg) (S : Src K mg "check_note" "check_note" st_check_note ["score", "number"]) (y_BadScore : XCls2 P K mg "BadScore" "number" "fault") (q_LEAST_PITCH : GlC K mg "LEAST_PITCH" (.int (-1))) (q_MOST_PITCH : GlC K mg "MOST_PITCH" (.int 599)) (v : V_check_note) : Dfn P w K mg base TT kc "check_note" 3 2 Φ_check_note := by
  refine dfn_of (k := 2) S sc_check_note (fun f cdv A outer s H E Z ow hm hc hr hT gr => ?_) v
  have tk := takes_of (X := cxOf (L2.CX P w) P w K mg base N_check_note "check_note" (defScope st_check_note) f cdv A outer s H E) rfl rfl rfl rfl
  have po : PassesOwn (model P w) (cxOf (L2.CX P w) P w K mg base N_check_note "check_note" (defScope st_check_note) f cdv A outer s H E).A (cxOf (L2.CX P w) P w K mg base N_check_note "check_note" (defScope st_check_note) f cdv A outer s H E).env (cxOf (L2.CX P w) P w K mg base N_check_note "check_note" (defScope st_check_note) f cdv A outer s H E).xe := passes_of rfl
  have hu := room_hu hr
  skip
  exact (sim_bcons (sim_asg (sim_ix (sim_ix (sim_var 0) sim_int) (sim_var 1)) (sim_btup rfl (sim_btcons (sim_bname 2 sc_check_note.nd) (sim_btcons (sim_bname 3 sc_check_note.nd) (sim_btcons (sim_bname 4 sc_check_note.nd) sim_btnil))) (bCons_len bName_has (bCons_len bName_has (bCons_len bName_has bNil_len))))) (sim_bcons (sim_if (SimW.t (sim_and (sim_tcmp or_gt (sim_var 1) sim_int) (sim_and1 (sim_tcmp (or_leD (room_hu hr)) (sim_ix (sim_ix (sim_var 0) sim_int) (sim_var 1)) (sim_ix (sim_ix (sim_var 0) sim_int) (sim_op or_sub (sim_var 1) sim_int)))))) (sim_bone (sim_raise2 rfl tk y_BadScore (hr.mono (by decide)) rfl (sim_cons (sim_var 1) (sim_cons sim_str sim_nil)))) sim_bnil) (sim_bcons (sim_if (sim_tnot (sim_tchain or_le or_le (sim_globC rfl q_LEAST_PITCH) (sim_var 3) (sim_globC rfl q_MOST_PITCH))) (sim_bone (sim_raise2 rfl tk y_BadScore (hr.mono (by decide)) rfl (sim_cons (sim_var 1) (sim_cons sim_str sim_nil)))) sim_bnil) (sim_bone (sim_if (sim_tcmp or_gt (sim_op or_add (sim_var 2) (sim_var 4)) (sim_ix (sim_var 0) sim_int)) (sim_bone (sim_raise2 rfl tk y_BadScore (hr.mono (by decide)) rfl (sim_cons (sim_var 1) (sim_cons sim_str sim_nil)))) sim_bnil)))))
abbrev st_checked_score : Stmt := top 19
def N_checked_score : List Str := ["thing", "number"]
theorem sc_checked_score : FnScope N_checked_score ["thing"] (defScope st_checked_score) := ⟨rfl, rfl, rfl, by decide +kernel, rfl, by decide +kernel, by decide +kernel⟩
def w_checked_score_1 : WS := (wSeq (wFor (wRng1 (wCons (wCB bLen (wCons (wOp opIx (wVar 0) (wC (.int 1))) wNil)) wNil)) (bName 1) (wDo (wCall 2 Φ_check_note (wCons (wVar 0) (wCons (wVar 1) wNil))))) (wRet (wVar 0)))
def w_checked_score_2 : WS := (wSeq (wIfS (wTv (wOp opGt (wCB bLen (wCons (wOp opIx (wVar 0) (wC (.int 1))) wNil)) (wC (.int 120)))) (wRaise2 "TooLarge" "what" "limit" (wCons (wC (.str "notes")) (wCons (wC (.int 120)) wNil))) wSkip) w_checked_score_1)
def w_checked_score_3 : WS := (wSeq (wIfS (wTv (wOp opGt (wOp opIx (wVar 0) (wC (.int 0))) (wC (.int 64)))) (wRaise2 "TooLarge" "what" "limit" (wCons (wC (.str "ticks")) (wCons (wC (.int 64)) wNil))) wSkip) w_checked_score_2)
def w_checked_score_4 : WS := (wSeq (wIfS (wTv (wOp opLt (wOp opIx (wVar 0) (wC (.int 0))) (wC (.int 1)))) (wRaise2 "BadScore" "number" "fault" (wCons (wNeg (wC (.int 1))) (wCons (wC (.str "ticks")) wNil))) wSkip) w_checked_score_3)
def w_checked_score : WS := (wSeq (wIfS (wTnot (wTv (wCall 1 Φ_is_score_form (wCons (wVar 0) wNil)))) (wRaise2 "BadScore" "number" "fault" (wCons (wNeg (wC (.int 1))) (wCons (wC (.str "form")) wNil))) wSkip) w_checked_score_4)
def V_checked_score : Prop := ∀ (ys : List Val) (R : Val → Prop) (Ex : Xn → Prop), ys.length = 1 → ys.all argOk = true → Φ_checked_score ys R Ex → w_checked_score (endW R Ex) (start0 N_checked_score ys)
set_option maxHeartbeats 4000000 in
theorem s_checked_score (B : Bs mg) (S : Src K mg "checked_score" "checked_score" st_checked_score ["thing"]) (d_is_score_form : Dfn P w K mg base TT kc "is_score_form" 14 1 Φ_is_score_form) (d_check_note : Dfn P w K mg base TT kc "check_note" 3 2 Φ_check_note) (y_BadScore : XCls2 P K mg "BadScore" "number" "fault") (y_TooLarge : XCls2 P K mg "TooLarge" "what" "limit") (q_MOST_NOTES : GlC K mg "MOST_NOTES" (.int 120)) (q_MOST_TICKS : GlC K mg "MOST_TICKS" (.int 64)) (v : V_checked_score) : Dfn P w K mg base TT kc "checked_score" 15 1 Φ_checked_score := by
  refine dfn_of (k := 14) S sc_checked_score (fun f cdv A outer s H E Z ow hm hc hr hT gr => ?_) v
  have tk := takes_of (X := cxOf (L2.CX P w) P w K mg base N_checked_score "checked_score" (defScope st_checked_score) f cdv A outer s H E) rfl rfl rfl rfl
  have po : PassesOwn (model P w) (cxOf (L2.CX P w) P w K mg base N_checked_score "checked_score" (defScope st_checked_score) f cdv A outer s H E).A (cxOf (L2.CX P w) P w K mg base N_checked_score "checked_score" (defScope st_checked_score) f cdv A outer s H E).env (cxOf (L2.CX P w) P w K mg base N_checked_score "checked_score" (defScope st_checked_score) f cdv A outer s H E).xe := passes_of rfl
  have hu := room_hu hr
  skip
  exact (sim_bcons (sim_if (sim_tnot (sim_tv (sim_callD d_is_score_form hT hr (by decide) tk rfl (sim_cons (sim_var 0) sim_nil)))) (sim_bone (sim_raise2 rfl tk y_BadScore (hr.mono (by decide)) rfl (sim_cons (sim_neg sim_int) (sim_cons sim_str sim_nil)))) sim_bnil) (sim_bcons (sim_if (sim_tcmp or_lt (sim_ix (sim_var 0) sim_int) sim_int) (sim_bone (sim_raise2 rfl tk y_BadScore (hr.mono (by decide)) rfl (sim_cons (sim_neg sim_int) (sim_cons sim_str sim_nil)))) sim_bnil) (sim_bcons (sim_if (sim_tcmp or_gt (sim_ix (sim_var 0) sim_int) (sim_globC rfl q_MOST_TICKS)) (sim_bone (sim_raise2 rfl tk y_TooLarge (hr.mono (by decide)) rfl (sim_cons sim_str (sim_cons (sim_globC rfl q_MOST_TICKS) sim_nil)))) sim_bnil) (sim_bcons (sim_if (sim_tcmp or_gt (sim_callB cd_len rfl B.b_len (by decide +kernel) (sim_cons (sim_ix (sim_var 0) sim_int) sim_nil)) (sim_globC rfl q_MOST_NOTES)) (sim_bone (sim_raise2 rfl tk y_TooLarge (hr.mono (by decide)) rfl (sim_cons sim_str (sim_cons (sim_globC rfl q_MOST_NOTES) sim_nil)))) sim_bnil) (sim_bcons (sim_for po rfl (sim_rng1 rfl B.b_range (sim_cons (sim_callB cd_len rfl B.b_len (by decide +kernel) (sim_cons (sim_ix (sim_var 0) sim_int) sim_nil)) sim_nil)) (sim_bname 1 sc_checked_score.nd) (sim_bone (sim_do (sim_callD d_check_note hT hr (by decide) tk rfl (sim_cons (sim_var 0) (sim_cons (sim_var 1) sim_nil)))))) (sim_bone (sim_ret (sim_var 0))))))))
abbrev st_last_tick : Stmt := top 20
def N_last_tick : List Str := ["note"]
theorem sc_last_tick : FnScope N_last_tick ["note"] (defScope st_last_tick) := ⟨rfl, rfl, rfl, by decide +kernel, rfl, by decide +kernel, by decide +kernel⟩
def w_last_tick : WS := (wRet (wOp opSub (wOp opAdd (wOp opIx (wVar 0) (wC (.int 0))) (wOp opIx (wVar 0) (wC (.int 2)))) (wC (.int 1))))
def V_last_tick : Prop := ∀ (ys : List Val) (R : Val → Prop) (Ex : Xn → Prop), ys.length = 1 → ys.all argOk = true → Φ_last_tick ys R Ex → w_last_tick (endW R Ex) (start0 N_last_tick ys)
set_option maxHeartbeats 4000000 in
theorem s_last_tick (B : Bs mg) (S : Src K mg "last_tick" "last_tick" st_last_tick ["note"]) (v : V_last_tick) : Dfn P w K mg base TT kc "last_tick" 1 1 Φ_last_tick := by
  refine dfn_of (k := 0) S sc_last_tick (fun f cdv A outer s H E Z ow hm hc hr hT gr => ?_) v
  have tk := takes_of (X := cxOf (L2.CX P w) P w K mg base N_last_tick "last_tick" (defScope st_last_tick) f cdv A outer s H E) rfl rfl rfl rfl
  have po : PassesOwn (model P w) (cxOf (L2.CX P w) P w K mg base N_last_tick "last_tick" (defScope st_last_tick) f cdv A outer s H E).A (cxOf (L2.CX P w) P w K mg base N_last_tick "last_tick" (defScope st_last_tick) f cdv A outer s H E).env (cxOf (L2.CX P w) P w K mg base N_last_tick "last_tick" (defScope st_last_tick) f cdv A outer s H E).xe := passes_of rfl
  have hu := room_hu hr
  skip
  exact (sim_bone (sim_ret (sim_op or_sub (sim_op or_add (sim_ix (sim_var 0) sim_int) (sim_ix (sim_var 0) sim_int)) sim_int)))
abbrev st_rings_at : Stmt := top 21
def N_rings_at : List Str := ["score", "tick", "number", "note"]
theorem sc_rings_at : FnScope N_rings_at ["score", "tick"] (defScope st_rings_at) := ⟨rfl, rfl, rfl, by decide +kernel, rfl, by decide +kernel, by decide +kernel⟩
def psc_rings_at_64_17 : Scope := { kind := PySem.ScopeKind.function, names := [ (PySem.Str.ofString ".0", PySem.NameKind.local), (PySem.Str.ofString "number", PySem.NameKind.local), (PySem.Str.ofString "note", PySem.NameKind.local), (PySem.Str.ofString "last_tick", PySem.NameKind.globalImplicit), (PySem.Str.ofString "tick", PySem.NameKind.free)], isGenerator := false, isCoroutine := false, more := [] : PySem.Scope }
def w_rings_at : WS := (wRet (wCB bTuple (wCons (wLc (wEnum (wCons (wOp opIx (wVar 0) (wC (.int 1))) wNil)) (bTup (bCons (bName 2) (bCons (bName 3) bNil))) (wTv (wChain opLe opLe (wOp opIx (wVar 3) (wC (.int 0))) (wVar 1) (wCall 1 Φ_last_tick (wCons (wVar 3) wNil)))) (wVar 2) [2, 3]) wNil)))
def V_rings_at : Prop := ∀ (ys : List Val) (R : Val → Prop) (Ex : Xn → Prop), ys.length = 2 → ys.all argOk = true → Φ_rings_at ys R Ex → w_rings_at (endW R Ex) (start0 N_rings_at ys)
set_option maxHeartbeats 4000000 in
theorem s_rings_at (B : Bs mg) (S : Src K mg "rings_at" "rings_at" st_rings_at ["score", "tick"]) (d_last_tick : Dfn P w K mg base TT kc "last_tick" 1 1 Φ_last_tick) (v : V_rings_at) : Dfn P w K mg base TT kc "rings_at" 2 2 Φ_rings_at := by
  refine dfn_of (k := 1) S sc_rings_at (fun f cdv A outer s H E Z ow hm hc hr hT gr => ?_) v
  have tk := takes_of (X := cxOf (L2.CX P w) P w K mg base N_rings_at "rings_at" (defScope st_rings_at) f cdv A outer s H E) rfl rfl rfl rfl
  have po : PassesOwn (model P w) (cxOf (L2.CX P w) P w K mg base N_rings_at "rings_at" (defScope st_rings_at) f cdv A outer s H E).A (cxOf (L2.CX P w) P w K mg base N_rings_at "rings_at" (defScope st_rings_at) f cdv A outer s H E).env (cxOf (L2.CX P w) P w K mg base N_rings_at "rings_at" (defScope st_rings_at) f cdv A outer s H E).xe := passes_of rfl
  have hu := room_hu hr
  skip
  exact (sim_bone (sim_ret (sim_callT cd_tuple rfl B.b_tuple (by decide +kernel) (sim_cons (sim_lc (own := [("number", 2), ("note", 3)]) rfl sc_rings_at.nd gr (sim_enum rfl B.b_enumerate (sim_cons (sim_ix (sim_var 0) sim_int) sim_nil)) (blkOk_by (N := N_rings_at) (sc := defScope st_rings_at) (by decide +kernel)) (by decide) (fun s H C cl fp => (sim_btup rfl (sim_btcons (sim_bname 2 sc_rings_at.nd) (sim_btcons (sim_bname 3 sc_rings_at.nd) sim_btnil)) (bCons_len bName_has (bCons_len bName_has bNil_len)))) (fun s H C cl fp => (sim_tsone (sim_tchain or_le or_le (sim_ix (sim_var 3) sim_int) (sim_var 1) (sim_callD d_last_tick hT hr (by decide) LamX.takes0 rfl (sim_cons (sim_var 3) sim_nil))))) (fun s H C cl fp => (sim_var 2))) sim_nil))))
abbrev st_begins_at : Stmt := top 22
def N_begins_at : List Str := ["score", "tick", "number", "note"]
theorem sc_begins_at : FnScope N_begins_at ["score", "tick"] (defScope st_begins_at) := ⟨rfl, rfl, rfl, by decide +kernel, rfl, by decide +kernel, by decide +kernel⟩
def psc_begins_at_66_17 : Scope := { kind := PySem.ScopeKind.function, names := [ (PySem.Str.ofString ".0", PySem.NameKind.local), (PySem.Str.ofString "number", PySem.NameKind.local), (PySem.Str.ofString "note", PySem.NameKind.local), (PySem.Str.ofString "tick", PySem.NameKind.free)], isGenerator := false, isCoroutine := false, more := [] : PySem.Scope }
def w_begins_at : WS := (wRet (wCB bTuple (wCons (wLc (wEnum (wCons (wOp opIx (wVar 0) (wC (.int 1))) wNil)) (bTup (bCons (bName 2) (bCons (bName 3) bNil))) (wTv (wOp opEq (wOp opIx (wVar 3) (wC (.int 0))) (wVar 1))) (wVar 2) [2, 3]) wNil)))
def V_begins_at : Prop := ∀ (ys : List Val) (R : Val → Prop) (Ex : Xn → Prop), ys.length = 2 → ys.all argOk = true → Φ_begins_at ys R Ex → w_begins_at (endW R Ex) (start0 N_begins_at ys)
set_option maxHeartbeats 4000000 in
theorem s_begins_at (B : Bs mg) (S : Src K mg "begins_at" "begins_at" st_begins_at ["score", "tick"]) (v : V_begins_at) : Dfn P w K mg base TT kc "begins_at" 1 2 Φ_begins_at := by
  refine dfn_of (k := 0) S sc_begins_at (fun f cdv A outer s H E Z ow hm hc hr hT gr => ?_) v
  have tk := takes_of (X := cxOf (L2.CX P w) P w K mg base N_begins_at "begins_at" (defScope st_begins_at) f cdv A outer s H E) rfl rfl rfl rfl
  have po : PassesOwn (model P w) (cxOf (L2.CX P w) P w K mg base N_begins_at "begins_at" (defScope st_begins_at) f cdv A outer s H E).A (cxOf (L2.CX P w) P w K mg base N_begins_at "begins_at" (defScope st_begins_at) f cdv A outer s H E).env (cxOf (L2.CX P w) P w K mg base N_begins_at "begins_at" (defScope st_begins_at) f cdv A outer s H E).xe := passes_of rfl
  have hu := room_hu hr
  skip
  exact (sim_bone (sim_ret (sim_callT cd_tuple rfl B.b_tuple (by decide +kernel) (sim_cons (sim_lc (own := [("number", 2), ("note", 3)]) rfl sc_begins_at.nd gr (sim_enum rfl B.b_enumerate (sim_cons (sim_ix (sim_var 0) sim_int) sim_nil)) (blkOk_by (N := N_begins_at) (sc := defScope st_begins_at) (by decide +kernel)) (by decide) (fun s H C cl fp => (sim_btup rfl (sim_btcons (sim_bname 2 sc_begins_at.nd) (sim_btcons (sim_bname 3 sc_begins_at.nd) sim_btnil)) (bCons_len bName_has (bCons_len bName_has bNil_len)))) (fun s H C cl fp => (sim_tsone (sim_tcmp (or_eq (room_hu hr)) (sim_ix (sim_var 3) sim_int) (sim_var 1)))) (fun s H C cl fp => (sim_var 2))) sim_nil))))
abbrev st_pitches_at : Stmt := top 23
def N_pitches_at : List Str := ["score", "tick", "number"]
theorem sc_pitches_at : FnScope N_pitches_at ["score", "tick"] (defScope st_pitches_at) := ⟨rfl, rfl, rfl, by decide +kernel, rfl, by decide +kernel, by decide +kernel⟩
def psc_pitches_at_68_24 : Scope := { kind := PySem.ScopeKind.function, names := [ (PySem.Str.ofString ".0", PySem.NameKind.local), (PySem.Str.ofString "number", PySem.NameKind.local), (PySem.Str.ofString "score", PySem.NameKind.free)], isGenerator := false, isCoroutine := false, more := [] : PySem.Scope }
def w_pitches_at : WS := (wRet (wCB bTuple (wCons (wSortedKeys (wIt (wCall 2 Φ_rings_at (wCons (wVar 0) (wCons (wVar 1) wNil)))) (bName 2) wYes (wOp opIx (wOp opIx (wOp opIx (wVar 0) (wC (.int 1))) (wVar 2)) (wC (.int 1))) [2]) wNil)))
def V_pitches_at : Prop := ∀ (ys : List Val) (R : Val → Prop) (Ex : Xn → Prop), ys.length = 2 → ys.all argOk = true → Φ_pitches_at ys R Ex → w_pitches_at (endW R Ex) (start0 N_pitches_at ys)
set_option maxHeartbeats 4000000 in
theorem s_pitches_at (B : Bs mg) (S : Src K mg "pitches_at" "pitches_at" st_pitches_at ["score", "tick"]) (d_rings_at : Dfn P w K mg base TT kc "rings_at" 2 2 Φ_rings_at) (v : V_pitches_at) : Dfn P w K mg base TT kc "pitches_at" 3 2 Φ_pitches_at := by
  refine dfn_of (k := 2) S sc_pitches_at (fun f cdv A outer s H E Z ow hm hc hr hT gr => ?_) v
  have tk := takes_of (X := cxOf (L2.CX P w) P w K mg base N_pitches_at "pitches_at" (defScope st_pitches_at) f cdv A outer s H E) rfl rfl rfl rfl
  have po : PassesOwn (model P w) (cxOf (L2.CX P w) P w K mg base N_pitches_at "pitches_at" (defScope st_pitches_at) f cdv A outer s H E).A (cxOf (L2.CX P w) P w K mg base N_pitches_at "pitches_at" (defScope st_pitches_at) f cdv A outer s H E).env (cxOf (L2.CX P w) P w K mg base N_pitches_at "pitches_at" (defScope st_pitches_at) f cdv A outer s H E).xe := passes_of rfl
  have hu := room_hu hr
  skip
  exact (sim_bone (sim_ret (sim_callT cd_tuple rfl B.b_tuple (by decide +kernel) (sim_cons (sim_sortedKeys (own := [("number", 2)]) rfl sc_pitches_at.nd gr rfl B.b_sorted (sim_it (sim_callD d_rings_at hT hr (by decide) tk rfl (sim_cons (sim_var 0) (sim_cons (sim_var 1) sim_nil)))) (blkOk_by (N := N_pitches_at) (sc := defScope st_pitches_at) (by decide +kernel)) (by decide) (fun s H C cl fp => (sim_bname 2 sc_pitches_at.nd)) (fun s H C cl fp => sim_tsnil) (fun s H C cl fp => (sim_ix (sim_ix (sim_ix (sim_var 0) sim_int) (sim_var 2)) sim_int))) sim_nil))))
abbrev st_raised : Stmt := top 24
def N_raised : List Str := ["score", "steps", "tick", "pitch", "length"]
theorem sc_raised : FnScope N_raised ["score", "steps"] (defScope st_raised) := ⟨rfl, rfl, rfl, by decide +kernel, rfl, by decide +kernel, by decide +kernel⟩
def psc_raised_72_42 : Scope := { kind := PySem.ScopeKind.function, names := [ (PySem.Str.ofString ".0", PySem.NameKind.local), (PySem.Str.ofString "tick", PySem.NameKind.local), (PySem.Str.ofString "pitch", PySem.NameKind.local), (PySem.Str.ofString "length", PySem.NameKind.local), (PySem.Str.ofString "steps", PySem.NameKind.free)], isGenerator := false, isCoroutine := false, more := [] : PySem.Scope }
def w_raised : WS := (wSeq (wIfS (wTnot (wTv (wCall 1 Φ_is_number (wCons (wVar 1) wNil)))) (wRaise0 "Nothing") wSkip) (wRet (wCall 1 Φ_checked_score (wCons (wTup (wCons (wOp opIx (wVar 0) (wC (.int 0))) (wCons (wCB bTuple (wCons (wLc (wIt (wOp opIx (wVar 0) (wC (.int 1)))) (bTup (bCons (bName 2) (bCons (bName 3) (bCons (bName 4) bNil)))) wYes (wTup (wCons (wVar 2) (wCons (wOp opAdd (wVar 3) (wVar 1)) (wCons (wVar 4) wNil)))) [2, 3, 4]) wNil)) wNil))) wNil))))
def V_raised : Prop := ∀ (ys : List Val) (R : Val → Prop) (Ex : Xn → Prop), ys.length = 2 → ys.all argOk = true → Φ_raised ys R Ex → w_raised (endW R Ex) (start0 N_raised ys)
set_option maxHeartbeats 4000000 in
theorem s_raised (B : Bs mg) (S : Src K mg "raised" "raised" st_raised ["score", "steps"]) (d_is_number : Dfn P w K mg base TT kc "is_number" 1 1 Φ_is_number) (d_checked_score : Dfn P w K mg base TT kc "checked_score" 15 1 Φ_checked_score) (x_Nothing : XCls K mg "Nothing") (v : V_raised) : Dfn P w K mg base TT kc "raised" 16 2 Φ_raised := by
  refine dfn_of (k := 15) S sc_raised (fun f cdv A outer s H E Z ow hm hc hr hT gr => ?_) v
  have tk := takes_of (X := cxOf (L2.CX P w) P w K mg base N_raised "raised" (defScope st_raised) f cdv A outer s H E) rfl rfl rfl rfl
  have po : PassesOwn (model P w) (cxOf (L2.CX P w) P w K mg base N_raised "raised" (defScope st_raised) f cdv A outer s H E).A (cxOf (L2.CX P w) P w K mg base N_raised "raised" (defScope st_raised) f cdv A outer s H E).env (cxOf (L2.CX P w) P w K mg base N_raised "raised" (defScope st_raised) f cdv A outer s H E).xe := passes_of rfl
  have hu := room_hu hr
  skip
  exact (sim_bcons (sim_if (sim_tnot (sim_tv (sim_callD d_is_number hT hr (by decide) tk rfl (sim_cons (sim_var 1) sim_nil)))) (sim_bone (sim_raise0 rfl tk x_Nothing rfl)) sim_bnil) (sim_bone (sim_ret (sim_callD d_checked_score hT hr (by decide) tk rfl (sim_cons (sim_tup (sim_cons (sim_ix (sim_var 0) sim_int) (sim_cons (sim_callT cd_tuple rfl B.b_tuple (by decide +kernel) (sim_cons (sim_lc (own := [("tick", 2), ("pitch", 3), ("length", 4)]) rfl sc_raised.nd gr (sim_it (sim_ix (sim_var 0) sim_int)) (blkOk_by (N := N_raised) (sc := defScope st_raised) (by decide +kernel)) (by decide) (fun s H C cl fp => (sim_btup rfl (sim_btcons (sim_bname 2 sc_raised.nd) (sim_btcons (sim_bname 3 sc_raised.nd) (sim_btcons (sim_bname 4 sc_raised.nd) sim_btnil))) (bCons_len bName_has (bCons_len bName_has (bCons_len bName_has bNil_len))))) (fun s H C cl fp => sim_tsnil) (fun s H C cl fp => (sim_tup (sim_cons (sim_var 2) (sim_cons (sim_op or_add (sim_var 3) (sim_var 1)) (sim_cons (sim_var 4) sim_nil)))))) sim_nil)) sim_nil))) sim_nil)))))
abbrev st_from_tick : Stmt := top 25
def N_from_tick : List Str := ["score", "tick", "notes", "begin", "pitch", "length"]
theorem sc_from_tick : FnScope N_from_tick ["score", "tick"] (defScope st_from_tick) := ⟨rfl, rfl, rfl, by decide +kernel, rfl, by decide +kernel, by decide +kernel⟩
def psc_from_tick_76_12 : Scope := { kind := PySem.ScopeKind.function, names := [ (PySem.Str.ofString ".0", PySem.NameKind.local), (PySem.Str.ofString "begin", PySem.NameKind.local), (PySem.Str.ofString "pitch", PySem.NameKind.local), (PySem.Str.ofString "length", PySem.NameKind.local), (PySem.Str.ofString "tick", PySem.NameKind.free)], isGenerator := false, isCoroutine := false, more := [] : PySem.Scope }
def w_from_tick_1 : WS := (wSeq (wSetD 2 (wLc (wIt (wOp opIx (wVar 0) (wC (.int 1)))) (bTup (bCons (bName 3) (bCons (bName 4) (bCons (bName 5) bNil)))) (wTv (wOp opGe (wVar 3) (wVar 1))) (wTup (wCons (wOp opSub (wVar 3) (wVar 1)) (wCons (wVar 4) (wCons (wVar 5) wNil)))) [3, 4, 5])) (wRet (wTup (wCons (wOp opSub (wOp opIx (wVar 0) (wC (.int 0))) (wVar 1)) (wCons (wCB bTuple (wCons (wVar 2) wNil)) wNil)))))
def w_from_tick : WS := (wSeq (wIfS (wTor (wTnot (wTv (wCall 1 Φ_is_index (wCons (wVar 1) wNil)))) (wTv (wOp opGe (wVar 1) (wOp opIx (wVar 0) (wC (.int 0)))))) (wRaise0 "Nothing") wSkip) w_from_tick_1)
def V_from_tick : Prop := ∀ (ys : List Val) (R : Val → Prop) (Ex : Xn → Prop), ys.length = 2 → ys.all argOk = true → Φ_from_tick ys R Ex → w_from_tick (endW R Ex) (start0 N_from_tick ys)
set_option maxHeartbeats 4000000 in
theorem s_from_tick (B : Bs mg) (S : Src K mg "from_tick" "from_tick" st_from_tick ["score", "tick"]) (d_is_index : Dfn P w K mg base TT kc "is_index" 2 1 Φ_is_index) (x_Nothing : XCls K mg "Nothing") (v : V_from_tick) : Dfn P w K mg base TT kc "from_tick" 3 2 Φ_from_tick := by
  refine dfn_of (k := 2) S sc_from_tick (fun f cdv A outer s H E Z ow hm hc hr hT gr => ?_) v
  have tk := takes_of (X := cxOf (L2.CX P w) P w K mg base N_from_tick "from_tick" (defScope st_from_tick) f cdv A outer s H E) rfl rfl rfl rfl
  have po : PassesOwn (model P w) (cxOf (L2.CX P w) P w K mg base N_from_tick "from_tick" (defScope st_from_tick) f cdv A outer s H E).A (cxOf (L2.CX P w) P w K mg base N_from_tick "from_tick" (defScope st_from_tick) f cdv A outer s H E).env (cxOf (L2.CX P w) P w K mg base N_from_tick "from_tick" (defScope st_from_tick) f cdv A outer s H E).xe := passes_of rfl
  have hu := room_hu hr
  skip
  exact (sim_bcons (sim_if (SimW.t (sim_or (sim_tnot (sim_tv (sim_callD d_is_index hT hr (by decide) tk rfl (sim_cons (sim_var 1) sim_nil)))) (sim_or1 (sim_tcmp or_ge (sim_var 1) (sim_ix (sim_var 0) sim_int))))) (sim_bone (sim_raise0 rfl tk x_Nothing rfl)) sim_bnil) (sim_bcons (sim_setLcD 2 (own := [("begin", 3), ("pitch", 4), ("length", 5)]) rfl sc_from_tick.nd gr (sim_it (sim_ix (sim_var 0) sim_int)) (blkOk_by (N := N_from_tick) (sc := defScope st_from_tick) (by decide +kernel)) (by decide) (fun s H C cl fp => (sim_btup rfl (sim_btcons (sim_bname 3 sc_from_tick.nd) (sim_btcons (sim_bname 4 sc_from_tick.nd) (sim_btcons (sim_bname 5 sc_from_tick.nd) sim_btnil))) (bCons_len bName_has (bCons_len bName_has (bCons_len bName_has bNil_len))))) (fun s H C cl fp => (sim_tsone (sim_tcmp or_ge (sim_var 3) (sim_var 1)))) (fun s H C cl fp => (sim_tup (sim_cons (sim_op or_sub (sim_var 3) (sim_var 1)) (sim_cons (sim_var 4) (sim_cons (sim_var 5) sim_nil)))))) (sim_bone (sim_ret (sim_tup (sim_cons (sim_op or_sub (sim_ix (sim_var 0) sim_int) (sim_var 1)) (sim_cons (sim_callT cd_tuple rfl B.b_tuple (by decide +kernel) (sim_cons (sim_var 2) sim_nil)) sim_nil)))))))
abbrev st_joined : Stmt := top 26
def N_joined : List Str := ["one", "other", "later", "tick", "pitch", "length"]
theorem sc_joined : FnScope N_joined ["one", "other"] (defScope st_joined) := ⟨rfl, rfl, rfl, by decide +kernel, rfl, by decide +kernel, by decide +kernel⟩
def psc_joined_79_12 : Scope := { kind := PySem.ScopeKind.function, names := [ (PySem.Str.ofString ".0", PySem.NameKind.local), (PySem.Str.ofString "tick", PySem.NameKind.local), (PySem.Str.ofString "pitch", PySem.NameKind.local), (PySem.Str.ofString "length", PySem.NameKind.local), (PySem.Str.ofString "one", PySem.NameKind.free)], isGenerator := false, isCoroutine := false, more := [] : PySem.Scope }
def w_joined : WS := (wSeq (wSetD 2 (wLc (wIt (wOp opIx (wVar 1) (wC (.int 1)))) (bTup (bCons (bName 3) (bCons (bName 4) (bCons (bName 5) bNil)))) wYes (wTup (wCons (wOp opAdd (wVar 3) (wOp opIx (wVar 0) (wC (.int 0)))) (wCons (wVar 4) (wCons (wVar 5) wNil)))) [3, 4, 5])) (wRet (wCall 1 Φ_checked_score (wCons (wTup (wCons (wOp opAdd (wOp opIx (wVar 0) (wC (.int 0))) (wOp opIx (wVar 1) (wC (.int 0)))) (wCons (wTup (wStar (wOp opIx (wVar 0) (wC (.int 1))) (wStar (wVar 2) wNil))) wNil))) wNil))))
def V_joined : Prop := ∀ (ys : List Val) (R : Val → Prop) (Ex : Xn → Prop), ys.length = 2 → ys.all argOk = true → Φ_joined ys R Ex → w_joined (endW R Ex) (start0 N_joined ys)
set_option maxHeartbeats 4000000 in
theorem s_joined (B : Bs mg) (S : Src K mg "joined" "joined" st_joined ["one", "other"]) (d_checked_score : Dfn P w K mg base TT kc "checked_score" 15 1 Φ_checked_score) (v : V_joined) : Dfn P w K mg base TT kc "joined" 16 2 Φ_joined := by
  refine dfn_of (k := 15) S sc_joined (fun f cdv A outer s H E Z ow hm hc hr hT gr => ?_) v
  have tk := takes_of (X := cxOf (L2.CX P w) P w K mg base N_joined "joined" (defScope st_joined) f cdv A outer s H E) rfl rfl rfl rfl
  have po : PassesOwn (model P w) (cxOf (L2.CX P w) P w K mg base N_joined "joined" (defScope st_joined) f cdv A outer s H E).A (cxOf (L2.CX P w) P w K mg base N_joined "joined" (defScope st_joined) f cdv A outer s H E).env (cxOf (L2.CX P w) P w K mg base N_joined "joined" (defScope st_joined) f cdv A outer s H E).xe := passes_of rfl
  have hu := room_hu hr
  skip
  exact (sim_bcons (sim_setLcD 2 (own := [("tick", 3), ("pitch", 4), ("length", 5)]) rfl sc_joined.nd gr (sim_it (sim_ix (sim_var 1) sim_int)) (blkOk_by (N := N_joined) (sc := defScope st_joined) (by decide +kernel)) (by decide) (fun s H C cl fp => (sim_btup rfl (sim_btcons (sim_bname 3 sc_joined.nd) (sim_btcons (sim_bname 4 sc_joined.nd) (sim_btcons (sim_bname 5 sc_joined.nd) sim_btnil))) (bCons_len bName_has (bCons_len bName_has (bCons_len bName_has bNil_len))))) (fun s H C cl fp => sim_tsnil) (fun s H C cl fp => (sim_tup (sim_cons (sim_op or_add (sim_var 3) (sim_ix (sim_var 0) sim_int)) (sim_cons (sim_var 4) (sim_cons (sim_var 5) sim_nil)))))) (sim_bone (sim_ret (sim_callD d_checked_score hT hr (by decide) tk rfl (sim_cons (sim_tup (sim_cons (sim_op or_add (sim_ix (sim_var 0) sim_int) (sim_ix (sim_var 1) sim_int)) (sim_cons (sim_tup (sim_star (sim_ix (sim_var 0) sim_int) (sim_star (sim_var 2) sim_nil))) sim_nil))) sim_nil)))))
abbrev st_with_note : Stmt := top 27
def N_with_note : List Str := ["score", "note"]
theorem sc_with_note : FnScope N_with_note ["score", "note"] (defScope st_with_note) := ⟨rfl, rfl, rfl, by decide +kernel, rfl, by decide +kernel, by decide +kernel⟩
def w_with_note : WS := (wSeq (wIfS (wTor (wTnot (wTv (wCall 1 Φ_is_note (wCons (wVar 1) wNil)))) (wTv (wOp opIn (wVar 1) (wOp opIx (wVar 0) (wC (.int 1)))))) (wRaise0 "Nothing") wSkip) (wRet (wCall 1 Φ_checked_score (wCons (wTup (wCons (wOp opIx (wVar 0) (wC (.int 0))) (wCons (wCB bTuple (wCons (wCB bSorted (wCons (wLst (wStar (wOp opIx (wVar 0) (wC (.int 1))) (wCons (wVar 1) wNil))) wNil)) wNil)) wNil))) wNil))))
def V_with_note : Prop := ∀ (ys : List Val) (R : Val → Prop) (Ex : Xn → Prop), ys.length = 2 → ys.all argOk = true → Φ_with_note ys R Ex → w_with_note (endW R Ex) (start0 N_with_note ys)
set_option maxHeartbeats 4000000 in
theorem s_with_note (B : Bs mg) (S : Src K mg "with_note" "with_note" st_with_note ["score", "note"]) (d_is_note : Dfn P w K mg base TT kc "is_note" 3 1 Φ_is_note) (d_checked_score : Dfn P w K mg base TT kc "checked_score" 15 1 Φ_checked_score) (x_Nothing : XCls K mg "Nothing") (v : V_with_note) : Dfn P w K mg base TT kc "with_note" 16 2 Φ_with_note := by
  refine dfn_of (k := 15) S sc_with_note (fun f cdv A outer s H E Z ow hm hc hr hT gr => ?_) v
  have tk := takes_of (X := cxOf (L2.CX P w) P w K mg base N_with_note "with_note" (defScope st_with_note) f cdv A outer s H E) rfl rfl rfl rfl
  have po : PassesOwn (model P w) (cxOf (L2.CX P w) P w K mg base N_with_note "with_note" (defScope st_with_note) f cdv A outer s H E).A (cxOf (L2.CX P w) P w K mg base N_with_note "with_note" (defScope st_with_note) f cdv A outer s H E).env (cxOf (L2.CX P w) P w K mg base N_with_note "with_note" (defScope st_with_note) f cdv A outer s H E).xe := passes_of rfl
  have hu := room_hu hr
  skip
  exact (sim_bcons (sim_if (SimW.t (sim_or (sim_tnot (sim_tv (sim_callD d_is_note hT hr (by decide) tk rfl (sim_cons (sim_var 1) sim_nil)))) (sim_or1 (sim_tcmp (or_in (room_hu hr)) (sim_var 1) (sim_ix (sim_var 0) sim_int))))) (sim_bone (sim_raise0 rfl tk x_Nothing rfl)) sim_bnil) (sim_bone (sim_ret (sim_callD d_checked_score hT hr (by decide) tk rfl (sim_cons (sim_tup (sim_cons (sim_ix (sim_var 0) sim_int) (sim_cons (sim_callT cd_tuple rfl B.b_tuple (by decide +kernel) (sim_cons (sim_callB (cd_sorted hu) rfl B.b_sorted (by decide +kernel) (sim_cons (sim_lst (sim_star (sim_ix (sim_var 0) sim_int) (sim_cons (sim_var 1) sim_nil))) sim_nil)) sim_nil)) sim_nil))) sim_nil)))))
abbrev st_without_note : Stmt := top 28
def N_without_note : List Str := ["score", "number"]
theorem sc_without_note : FnScope N_without_note ["score", "number"] (defScope st_without_note) := ⟨rfl, rfl, rfl, by decide +kernel, rfl, by decide +kernel, by decide +kernel⟩
def w_without_note : WS := (wSeq (wIfS (wTor (wTnot (wTv (wCall 1 Φ_is_index (wCons (wVar 1) wNil)))) (wTv (wOp opGe (wVar 1) (wCB bLen (wCons (wOp opIx (wVar 0) (wC (.int 1))) wNil))))) (wRaise0 "Nothing") wSkip) (wRet (wTup (wCons (wOp opIx (wVar 0) (wC (.int 0))) (wCons (wOp opAdd (wSl (wOp opIx (wVar 0) (wC (.int 1))) wNo (wSo (wVar 1))) (wSl (wOp opIx (wVar 0) (wC (.int 1))) (wSo (wOp opAdd (wVar 1) (wC (.int 1)))) wNo)) wNil)))))
def V_without_note : Prop := ∀ (ys : List Val) (R : Val → Prop) (Ex : Xn → Prop), ys.length = 2 → ys.all argOk = true → Φ_without_note ys R Ex → w_without_note (endW R Ex) (start0 N_without_note ys)
set_option maxHeartbeats 4000000 in
theorem s_without_note (B : Bs mg) (S : Src K mg "without_note" "without_note" st_without_note ["score", "number"]) (d_is_index : Dfn P w K mg base TT kc "is_index" 2 1 Φ_is_index) (x_Nothing : XCls K mg "Nothing") (v : V_without_note) : Dfn P w K mg base TT kc "without_note" 3 2 Φ_without_note := by
  refine dfn_of (k := 2) S sc_without_note (fun f cdv A outer s H E Z ow hm hc hr hT gr => ?_) v
  have tk := takes_of (X := cxOf (L2.CX P w) P w K mg base N_without_note "without_note" (defScope st_without_note) f cdv A outer s H E) rfl rfl rfl rfl
  have po : PassesOwn (model P w) (cxOf (L2.CX P w) P w K mg base N_without_note "without_note" (defScope st_without_note) f cdv A outer s H E).A (cxOf (L2.CX P w) P w K mg base N_without_note "without_note" (defScope st_without_note) f cdv A outer s H E).env (cxOf (L2.CX P w) P w K mg base N_without_note "without_note" (defScope st_without_note) f cdv A outer s H E).xe := passes_of rfl
  have hu := room_hu hr
  skip
  exact (sim_bcons (sim_if (SimW.t (sim_or (sim_tnot (sim_tv (sim_callD d_is_index hT hr (by decide) tk rfl (sim_cons (sim_var 1) sim_nil)))) (sim_or1 (sim_tcmp or_ge (sim_var 1) (sim_callB cd_len rfl B.b_len (by decide +kernel) (sim_cons (sim_ix (sim_var 0) sim_int) sim_nil)))))) (sim_bone (sim_raise0 rfl tk x_Nothing rfl)) sim_bnil) (sim_bone (sim_ret (sim_tup (sim_cons (sim_ix (sim_var 0) sim_int) (sim_cons (sim_op or_add (sim_sl (sim_ix (sim_var 0) sim_int) sim_no (sim_so (sim_var 1))) (sim_sl (sim_ix (sim_var 0) sim_int) (sim_so (sim_op or_add (sim_var 1) sim_int)) sim_no)) sim_nil))))))
abbrev st_loudest : Stmt := top 29
def N_loudest : List Str := ["score", "rows", "tick", "many"]
theorem sc_loudest : FnScope N_loudest ["score"] (defScope st_loudest) := ⟨rfl, rfl, rfl, by decide +kernel, rfl, by decide +kernel, by decide +kernel⟩
def psc_loudest_90_11 : Scope := { kind := PySem.ScopeKind.function, names := [ (PySem.Str.ofString ".0", PySem.NameKind.local), (PySem.Str.ofString "tick", PySem.NameKind.local), (PySem.Str.ofString "len", PySem.NameKind.globalImplicit), (PySem.Str.ofString "rings_at", PySem.NameKind.globalImplicit), (PySem.Str.ofString "score", PySem.NameKind.free)], isGenerator := false, isCoroutine := false, more := [] : PySem.Scope }
def w_loudest_1 : WS := (wSeq (wAsg (bTup (bCons (bName 3) (bCons (bName 2) bNil))) (wCB bMinR (wCons (wVar 1) wNil))) (wRet (wTup (wCons (wNeg (wVar 3)) (wCons (wVar 2) wNil)))))
def w_loudest : WS := (wSeq (wSetD 1 (wLc (wRng1 (wCons (wOp opIx (wVar 0) (wC (.int 0))) wNil)) (bName 2) wYes (wTup (wCons (wNeg (wCB bLen (wCons (wCall 2 Φ_rings_at (wCons (wVar 0) (wCons (wVar 2) wNil))) wNil))) (wCons (wVar 2) wNil))) [2])) w_loudest_1)
def V_loudest : Prop := ∀ (ys : List Val) (R : Val → Prop) (Ex : Xn → Prop), ys.length = 1 → ys.all argOk = true → Φ_loudest ys R Ex → w_loudest (endW R Ex) (start0 N_loudest ys)
set_option maxHeartbeats 4000000 in
theorem s_loudest (B : Bs mg) (S : Src K mg "loudest" "loudest" st_loudest ["score"]) (d_rings_at : Dfn P w K mg base TT kc "rings_at" 2 2 Φ_rings_at) (v : V_loudest) : Dfn P w K mg base TT kc "loudest" 3 1 Φ_loudest := by
  refine dfn_of (k := 2) S sc_loudest (fun f cdv A outer s H E Z ow hm hc hr hT gr => ?_) v
  have tk := takes_of (X := cxOf (L2.CX P w) P w K mg base N_loudest "loudest" (defScope st_loudest) f cdv A outer s H E) rfl rfl rfl rfl
  have po : PassesOwn (model P w) (cxOf (L2.CX P w) P w K mg base N_loudest "loudest" (defScope st_loudest) f cdv A outer s H E).A (cxOf (L2.CX P w) P w K mg base N_loudest "loudest" (defScope st_loudest) f cdv A outer s H E).env (cxOf (L2.CX P w) P w K mg base N_loudest "loudest" (defScope st_loudest) f cdv A outer s H E).xe := passes_of rfl
  have hu := room_hu hr
  skip
  exact (sim_bcons (sim_setLcD 1 (own := [("tick", 2)]) rfl sc_loudest.nd gr (sim_rng1 rfl B.b_range (sim_cons (sim_ix (sim_var 0) sim_int) sim_nil)) (blkOk_by (N := N_loudest) (sc := defScope st_loudest) (by decide +kernel)) (by decide) (fun s H C cl fp => (sim_bname 2 sc_loudest.nd)) (fun s H C cl fp => sim_tsnil) (fun s H C cl fp => (sim_tup (sim_cons (sim_neg (sim_callB cd_len rfl B.b_len (by decide +kernel) (sim_cons (sim_callD d_rings_at hT hr (by decide) LamX.takes0 rfl (sim_cons (sim_var 0) (sim_cons (sim_var 2) sim_nil))) sim_nil))) (sim_cons (sim_var 2) sim_nil))))) (sim_bcons (sim_asg (sim_callB (cd_minR rfl (room_hu hr)) rfl B.b_min (by decide +kernel) (sim_cons (sim_var 1) sim_nil)) (sim_btup rfl (sim_btcons (sim_bname 3 sc_loudest.nd) (sim_btcons (sim_bname 2 sc_loudest.nd) sim_btnil)) (bCons_len bName_has (bCons_len bName_has bNil_len)))) (sim_bone (sim_ret (sim_tup (sim_cons (sim_neg (sim_var 3)) (sim_cons (sim_var 2) sim_nil)))))))
abbrev st_span_of : Stmt := top 30
def N_span_of : List Str := ["score", "pitches", "tick", "pitch", "length"]
theorem sc_span_of : FnScope N_span_of ["score"] (defScope st_span_of) := ⟨rfl, rfl, rfl, by decide +kernel, rfl, by decide +kernel, by decide +kernel⟩
def psc_span_of_94_14 : Scope := { kind := PySem.ScopeKind.function, names := [ (PySem.Str.ofString ".0", PySem.NameKind.local), (PySem.Str.ofString "tick", PySem.NameKind.local), (PySem.Str.ofString "pitch", PySem.NameKind.local), (PySem.Str.ofString "length", PySem.NameKind.local)], isGenerator := false, isCoroutine := false, more := [] : PySem.Scope }
def w_span_of : WS := (wSeq (wSetD 1 (wLc (wIt (wOp opIx (wVar 0) (wC (.int 1)))) (bTup (bCons (bName 2) (bCons (bName 3) (bCons (bName 4) bNil)))) wYes (wVar 3) [2, 3, 4])) (wRet (wIf (wTv (wOp opNe (wVar 1) (wLst wNil))) (wTup (wCons (wCB bMinR (wCons (wVar 1) wNil)) (wCons (wCB bMaxR (wCons (wVar 1) wNil)) wNil))) (wC .none))))
def V_span_of : Prop := ∀ (ys : List Val) (R : Val → Prop) (Ex : Xn → Prop), ys.length = 1 → ys.all argOk = true → Φ_span_of ys R Ex → w_span_of (endW R Ex) (start0 N_span_of ys)
set_option maxHeartbeats 4000000 in
theorem s_span_of (B : Bs mg) (S : Src K mg "span_of" "span_of" st_span_of ["score"]) (v : V_span_of) : Dfn P w K mg base TT kc "span_of" 1 1 Φ_span_of := by
  refine dfn_of (k := 0) S sc_span_of (fun f cdv A outer s H E Z ow hm hc hr hT gr => ?_) v
  have tk := takes_of (X := cxOf (L2.CX P w) P w K mg base N_span_of "span_of" (defScope st_span_of) f cdv A outer s H E) rfl rfl rfl rfl
  have po : PassesOwn (model P w) (cxOf (L2.CX P w) P w K mg base N_span_of "span_of" (defScope st_span_of) f cdv A outer s H E).A (cxOf (L2.CX P w) P w K mg base N_span_of "span_of" (defScope st_span_of) f cdv A outer s H E).env (cxOf (L2.CX P w) P w K mg base N_span_of "span_of" (defScope st_span_of) f cdv A outer s H E).xe := passes_of rfl
  have hu := room_hu hr
  skip
  exact (sim_bcons (sim_setLcD 1 (own := [("tick", 2), ("pitch", 3), ("length", 4)]) rfl sc_span_of.nd gr (sim_it (sim_ix (sim_var 0) sim_int)) (blkOk_by (N := N_span_of) (sc := defScope st_span_of) (by decide +kernel)) (by decide) (fun s H C cl fp => (sim_btup rfl (sim_btcons (sim_bname 2 sc_span_of.nd) (sim_btcons (sim_bname 3 sc_span_of.nd) (sim_btcons (sim_bname 4 sc_span_of.nd) sim_btnil))) (bCons_len bName_has (bCons_len bName_has (bCons_len bName_has bNil_len))))) (fun s H C cl fp => sim_tsnil) (fun s H C cl fp => (sim_var 3))) (sim_bone (sim_ret (sim_ifx (sim_tcmp (or_ne (room_hu hr)) (sim_var 1) (sim_lst sim_nil)) (sim_tup (sim_cons (sim_callB (cd_minR rfl (room_hu hr)) rfl B.b_min (by decide +kernel) (sim_cons (sim_var 1) sim_nil)) (sim_cons (sim_callB (cd_maxR rfl (room_hu hr)) rfl B.b_max (by decide +kernel) (sim_cons (sim_var 1) sim_nil)) sim_nil))) sim_non))))
abbrev st__law_take : Stmt := top 33
def N__law_take : List Str := ["bag", "many", "cell", "stirred", "value", "begin", "second"]
theorem sc__law_take : FnScope N__law_take ["bag", "many"] (defScope st__law_take) := ⟨rfl, rfl, rfl, by decide +kernel, rfl, by decide +kernel, by decide +kernel⟩
def w__law_take_1 : WS := (wSeq (wSetD 3 (wOp opAdd (wOp opAdd (wOp opMul (wBag 0 1) (wC (.int 48271))) (wOp opMod (wCB bInt (wCons (wVar 2) wNil)) (wC (.int 2147483647)))) (wOp opMul (wC (.int 7919)) (wBag 0 2)))) (wBagSet 0 1 (wOp opMod (wCB bInt (wCons (wVar 3) wNil)) (wC (.int 2147483647)))))
def w__law_take_2 : WS := (wSeq (wIfS (wTv (wOp opGe (wVar 2) (wOp opPow (wC (.int 10)) (wC (.int 18))))) (wBagSet 0 0 (wVar 2)) wSkip) w__law_take_1)
def w__law_take_3 : WS := (wSeq (wBagAdd 0 1) w__law_take_2)
def w__law_take_4 : WS := (wSeq (wBagSet 0 0 (wOp opFdiv (wCB bInt (wCons (wBag 0 0) wNil)) (wVar 1))) (wRet (wVar 4)))
def w__law_take_5 : WS := (wSeq (wSetD 6 (wOp opMod (wCB bInt (wCons (wOp opMul (wOp opMod (wCB bInt (wCons (wOp opMul (wVar 5) (wVar 5)) wNil)) (wC (.int 998244353))) (wC (.int 30011))) wNil)) (wC (.int 998244353)))) (wRet (wOp opMod (wCB bInt (wCons (wOp opFdiv (wVar 6) (wC (.int 7))) wNil)) (wVar 1))))
def w__law_take_6 : WS := (wSeq (wSetD 5 (wOp opMod (wCB bInt (wCons (wOp opMul (wOp opAdd (wBag 0 1) (wC (.int 1))) (wC (.int 39373))) wNil)) (wC (.int 1000000007)))) w__law_take_5)
def w__law_take_7 : WS := (wSeq (wIfS (wTv (wOp opGt (wBag 0 0) (wC (.int 0)))) (wSeq (wSetD 4 (wOp opMod (wCB bInt (wCons (wBag 0 0) wNil)) (wVar 1))) w__law_take_4) wSkip) w__law_take_6)
def w__law_take : WS := (wSeq (wIfS (wTv (wOp opEq (wBag 0 0) (wC (.int 0)))) (wSeq (wSetD 2 (wBagCell 0)) w__law_take_3) wSkip) w__law_take_7)
def V__law_take : Prop := ∀ (ys : List Val) (R : Val → Prop) (Ex : Xn → Prop), ys.length = 2 → ys.all argOk = true → Φ__law_take ys R Ex → w__law_take (endW R Ex) (start0 N__law_take ys)
set_option maxHeartbeats 4000000 in
theorem s__law_take (B : Bs mg) (S : Src K mg "_law_take" "_law_take" st__law_take ["bag", "many"]) (v : V__law_take) : Dfn P w K mg base TT kc "_law_take" 1 2 Φ__law_take := by
  refine dfn_of (k := 0) S sc__law_take (fun f cdv A outer s H E Z ow hm hc hr hT gr => ?_) v
  have tk := takes_of (X := cxOf (L2.CX P w) P w K mg base N__law_take "_law_take" (defScope st__law_take) f cdv A outer s H E) rfl rfl rfl rfl
  have po : PassesOwn (model P w) (cxOf (L2.CX P w) P w K mg base N__law_take "_law_take" (defScope st__law_take) f cdv A outer s H E).A (cxOf (L2.CX P w) P w K mg base N__law_take "_law_take" (defScope st__law_take) f cdv A outer s H E).env (cxOf (L2.CX P w) P w K mg base N__law_take "_law_take" (defScope st__law_take) f cdv A outer s H E).xe := passes_of rfl
  have hu := room_hu hr
  skip
  exact (sim_bcons (sim_if (sim_tcmp (or_eq (room_hu hr)) (sim_bag 0 (by decide)) sim_int) (sim_bcons (sim_setD 2 (sim_bagcell 0) sc__law_take.nd) (sim_bcons (sim_bagadd 0) (sim_bcons (sim_if (sim_tcmp or_ge (sim_var 2) (sim_op or_pow sim_int sim_int)) (sim_bone (sim_bagset 0 (by decide) (sim_var 2))) sim_bnil) (sim_bcons (sim_setD 3 (sim_op or_add (sim_op or_add (sim_op or_mul (sim_bag 0 (by decide)) sim_int) (sim_op or_mod (sim_callT cd_int rfl B.b_int (by decide +kernel) (sim_cons (sim_var 2) sim_nil)) sim_int)) (sim_op or_mul sim_int (sim_bag 0 (by decide)))) sc__law_take.nd) (sim_bone (sim_bagset 0 (by decide) (sim_op or_mod (sim_callT cd_int rfl B.b_int (by decide +kernel) (sim_cons (sim_var 3) sim_nil)) sim_int))))))) sim_bnil) (sim_bcons (sim_if (sim_tcmp or_gt (sim_bag 0 (by decide)) sim_int) (sim_bcons (sim_setD 4 (sim_op or_mod (sim_callT cd_int rfl B.b_int (by decide +kernel) (sim_cons (sim_bag 0 (by decide)) sim_nil)) (sim_var 1)) sc__law_take.nd) (sim_bcons (sim_bagset 0 (by decide) (sim_op or_fdiv (sim_callT cd_int rfl B.b_int (by decide +kernel) (sim_cons (sim_bag 0 (by decide)) sim_nil)) (sim_var 1))) (sim_bone (sim_ret (sim_var 4))))) sim_bnil) (sim_bcons (sim_setD 5 (sim_op or_mod (sim_callT cd_int rfl B.b_int (by decide +kernel) (sim_cons (sim_op or_mul (sim_op or_add (sim_bag 0 (by decide)) sim_int) sim_int) sim_nil)) sim_int) sc__law_take.nd) (sim_bcons (sim_setD 6 (sim_op or_mod (sim_callT cd_int rfl B.b_int (by decide +kernel) (sim_cons (sim_op or_mul (sim_op or_mod (sim_callT cd_int rfl B.b_int (by decide +kernel) (sim_cons (sim_op or_mul (sim_var 5) (sim_var 5)) sim_nil)) sim_int) sim_int) sim_nil)) sim_int) sc__law_take.nd) (sim_bone (sim_ret (sim_op or_mod (sim_callT cd_int rfl B.b_int (by decide +kernel) (sim_cons (sim_op or_fdiv (sim_var 6) sim_int) sim_nil)) (sim_var 1))))))))
abbrev st__law_some : Stmt := top 34
def N__law_some : List Str := ["bag", "things"]
theorem sc__law_some : FnScope N__law_some ["bag", "things"] (defScope st__law_some) := ⟨rfl, rfl, rfl, by decide +kernel, rfl, by decide +kernel, by decide +kernel⟩
def w__law_some : WS := (wRet (wOp opIx (wVar 1) (wCall 2 Φ__law_take (wCons (wVar 0) (wCons (wCB bLen (wCons (wVar 1) wNil)) wNil)))))
def V__law_some : Prop := ∀ (ys : List Val) (R : Val → Prop) (Ex : Xn → Prop), ys.length = 2 → ys.all argOk = true → Φ__law_some ys R Ex → w__law_some (endW R Ex) (start0 N__law_some ys)
set_option maxHeartbeats 4000000 in
theorem s__law_some (B : Bs mg) (S : Src K mg "_law_some" "_law_some" st__law_some ["bag", "things"]) (d__law_take : Dfn P w K mg base TT kc "_law_take" 1 2 Φ__law_take) (v : V__law_some) : Dfn P w K mg base TT kc "_law_some" 2 2 Φ__law_some := by
  refine dfn_of (k := 1) S sc__law_some (fun f cdv A outer s H E Z ow hm hc hr hT gr => ?_) v
  have tk := takes_of (X := cxOf (L2.CX P w) P w K mg base N__law_some "_law_some" (defScope st__law_some) f cdv A outer s H E) rfl rfl rfl rfl
  have po : PassesOwn (model P w) (cxOf (L2.CX P w) P w K mg base N__law_some "_law_some" (defScope st__law_some) f cdv A outer s H E).A (cxOf (L2.CX P w) P w K mg base N__law_some "_law_some" (defScope st__law_some) f cdv A outer s H E).env (cxOf (L2.CX P w) P w K mg base N__law_some "_law_some" (defScope st__law_some) f cdv A outer s H E).xe := passes_of rfl
  have hu := room_hu hr
  skip
  exact (sim_bone (sim_ret (sim_ix (sim_var 1) (sim_callD d__law_take hT hr (by decide) tk rfl (sim_cons (sim_var 0) (sim_cons (sim_callB cd_len rfl B.b_len (by decide +kernel) (sim_cons (sim_var 1) sim_nil)) sim_nil))))))
abbrev st__law_mixed : Stmt := top 35
def N__law_mixed : List Str := ["bag", "things", "found", "thing"]
theorem sc__law_mixed : FnScope N__law_mixed ["bag", "things"] (defScope st__law_mixed) := ⟨rfl, rfl, rfl, by decide +kernel, rfl, by decide +kernel, by decide +kernel⟩
def w__law_mixed_1 : WS := (wSeq (wFor (wItL (wVar 1)) (bName 3) (wMt 2 mInsert (wCons (wCall 2 Φ__law_take (wCons (wVar 0) (wCons (wOp opAdd (wCB bLen (wCons (wVar 2) wNil)) (wC (.int 1))) wNil))) (wCons (wVar 3) wNil)))) (wRetL 2))
def w__law_mixed : WS := (wSeq (wSet 2 (wLst wNil)) w__law_mixed_1)
def V__law_mixed : Prop := ∀ (ys : List Val) (R : Val → Prop) (Ex : Xn → Prop), ys.length = 2 → ys.all argOk = true → Φ__law_mixed ys R Ex → w__law_mixed (endW R Ex) (start0 N__law_mixed ys)
set_option maxHeartbeats 4000000 in
theorem s__law_mixed (B : Bs mg) (S : Src K mg "_law_mixed" "_law_mixed" st__law_mixed ["bag", "things"]) (d__law_take : Dfn P w K mg base TT kc "_law_take" 1 2 Φ__law_take) (v : V__law_mixed) : Dfn P w K mg base TT kc "_law_mixed" 2 2 Φ__law_mixed := by
  refine dfn_of (k := 1) S sc__law_mixed (fun f cdv A outer s H E Z ow hm hc hr hT gr => ?_) v
  have tk := takes_of (X := cxOf (L2.CX P w) P w K mg base N__law_mixed "_law_mixed" (defScope st__law_mixed) f cdv A outer s H E) rfl rfl rfl rfl
  have po : PassesOwn (model P w) (cxOf (L2.CX P w) P w K mg base N__law_mixed "_law_mixed" (defScope st__law_mixed) f cdv A outer s H E).A (cxOf (L2.CX P w) P w K mg base N__law_mixed "_law_mixed" (defScope st__law_mixed) f cdv A outer s H E).env (cxOf (L2.CX P w) P w K mg base N__law_mixed "_law_mixed" (defScope st__law_mixed) f cdv A outer s H E).xe := passes_of rfl
  have hu := room_hu hr
  skip
  exact (sim_bcons (sim_set 2 (sim_lst sim_nil) sc__law_mixed.nd) (sim_bcons (sim_for po rfl (sim_itL (sim_var 1)) (sim_bname 3 sc__law_mixed.nd) (sim_bone (sim_mt mt_insert mo_insert 2 PySem.F.slot_list_insert PySem.F.type_list_insert (sim_cons (sim_callD d__law_take hT hr (by decide) tk rfl (sim_cons (sim_var 0) (sim_cons (sim_op or_add (sim_callB cd_len rfl B.b_len (by decide +kernel) (sim_cons (sim_var 2) sim_nil)) sim_int) sim_nil))) (sim_cons (sim_var 3) sim_nil))))) (sim_bone (sim_retL 2 gr))))
abbrev st__law_alike : Stmt := top 36
def N__law_alike : List Str := ["found", "due"]
theorem sc__law_alike : FnScope N__law_alike ["found", "due"] (defScope st__law_alike) := ⟨rfl, rfl, rfl, by decide +kernel, rfl, by decide +kernel, by decide +kernel⟩
def w__law_alike : WS := (wRet (wAnd (wOp opEq (wCB bRepr (wCons (wVar 0) wNil)) (wCB bRepr (wCons (wVar 1) wNil))) (wOp opEq (wVar 0) (wVar 1))))
def V__law_alike : Prop := ∀ (ys : List Val) (R : Val → Prop) (Ex : Xn → Prop), ys.length = 2 → ys.all argOk = true → Φ__law_alike ys R Ex → w__law_alike (endW R Ex) (start0 N__law_alike ys)
set_option maxHeartbeats 4000000 in
theorem s__law_alike (B : Bs mg) (S : Src K mg "_law_alike" "_law_alike" st__law_alike ["found", "due"]) (v : V__law_alike) : Gfn P w K mg base TT kc "_law_alike" 1 2 Φ__law_alike := by
  refine gfn_of (k := 0) S sc__law_alike (fun f cdv A outer s H E Z ow hgd hr hT gr => ?_) v
  have tk := takes_of (X := cxOf (L2.CX P w) P w K mg base N__law_alike "_law_alike" (defScope st__law_alike) f cdv A outer s H E) rfl rfl rfl rfl
  have po : PassesOwn (model P w) (cxOf (L2.CX P w) P w K mg base N__law_alike "_law_alike" (defScope st__law_alike) f cdv A outer s H E).A (cxOf (L2.CX P w) P w K mg base N__law_alike "_law_alike" (defScope st__law_alike) f cdv A outer s H E).env (cxOf (L2.CX P w) P w K mg base N__law_alike "_law_alike" (defScope st__law_alike) f cdv A outer s H E).xe := passes_of rfl
  have hu := room_hu hr
  skip
  exact (sim_bone (sim_ret (sim_vand (sim_cmp (or_eq (room_hu hr)) (sim_callB (cd_repr hgd (room_hu hr)) rfl B.b_repr (by decide +kernel) (sim_cons (sim_var 0) sim_nil)) (sim_callB (cd_repr hgd (room_hu hr)) rfl B.b_repr (by decide +kernel) (sim_cons (sim_var 1) sim_nil))) (sim_vone (sim_cmp (or_eq (room_hu hr)) (sim_var 0) (sim_var 1))))))
abbrev st__law_harp : Stmt := top 37
def N__law_harp : List Str := ["bag", "most_letters", "most_strings", "size", "letters", "names", "bases", "rows", "name", "base"]
theorem sc__law_harp : FnScope N__law_harp ["bag", "most_letters", "most_strings"] (defScope st__law_harp) := ⟨rfl, rfl, rfl, by decide +kernel, rfl, by decide +kernel, by decide +kernel⟩
def psc__law_harp_127_17 : Scope := { kind := PySem.ScopeKind.function, names := [ (PySem.Str.ofString ".0", PySem.NameKind.local), (PySem.Str.ofString "name", PySem.NameKind.local), (PySem.Str.ofString "base", PySem.NameKind.local), (PySem.Str.ofString "_law_take", PySem.NameKind.globalImplicit), (PySem.Str.ofString "bag", PySem.NameKind.free)], isGenerator := false, isCoroutine := false, more := [] : PySem.Scope }
def w__law_harp_1 : WS := (wSeq (wSetD 7 (wCB bTuple (wCons (wLc (wZip (wCons (wVar 5) (wCons (wVar 6) wNil))) (bTup (bCons (bName 8) (bCons (bName 9) bNil))) wYes (wTup (wCons (wVar 8) (wCons (wVar 9) (wCons (wCall 2 Φ__law_take (wCons (wVar 0) (wCons (wC (.int 2)) wNil))) wNil)))) [8, 9]) wNil))) (wRet (wTup (wCons (wVar 3) (wCons (wVar 7) (wCons (wOp opAdd (wC (.int 1)) (wCall 2 Φ__law_take (wCons (wVar 0) (wCons (wVar 2) wNil)))) (wCons (wOp opAdd (wC (.int 1)) (wCall 2 Φ__law_take (wCons (wVar 0) (wCons (wC (.int 3)) wNil)))) (wCons (wCall 2 Φ__law_take (wCons (wVar 0) (wCons (wC (.int 9)) wNil))) wNil))))))))
def w__law_harp_2 : WS := (wSeq (wSetD 6 (wCB bSorted (wCons (wSl (wCall 2 Φ__law_mixed (wCons (wVar 0) (wCons (wLR1 false (wVar 3)) wNil))) wNo (wSo (wVar 4))) wNil))) w__law_harp_1)
def w__law_harp_3 : WS := (wSeq (wSetD 5 (wSl (wCall 2 Φ__law_mixed (wCons (wVar 0) (wCons (wLst (wCons (wC (.str "ce")) (wCons (wC (.str "de")) (wCons (wC (.str "eh")) (wCons (wC (.str "ef")) (wCons (wC (.str "ge")) (wCons (wC (.str "ah")) (wCons (wC (.str "bee")) (wCons (wC (.str "hand")) (wCons (wC (.str "lefty")) wNil)))))))))) wNil))) wNo (wSo (wVar 4)))) w__law_harp_2)
def w__law_harp : WS := (wSeq (wPar 3 4 (wCons (wCall 2 Φ__law_some (wCons (wVar 0) (wCons (wLst (wCons (wC (.int 5)) (wCons (wC (.int 7)) (wCons (wC (.int 12)) wNil)))) wNil))) (wCons (wOp opAdd (wC (.int 2)) (wCall 2 Φ__law_take (wCons (wVar 0) (wCons (wOp opSub (wVar 1) (wC (.int 1))) wNil)))) wNil))) w__law_harp_3)
def V__law_harp : Prop := ∀ (ys : List Val) (R : Val → Prop) (Ex : Xn → Prop), ys.length = 3 → ys.all argOk = true → Φ__law_harp ys R Ex → w__law_harp (endW R Ex) (start0 N__law_harp ys)
set_option maxHeartbeats 4000000 in
theorem s__law_harp (B : Bs mg) (S : Src K mg "_law_harp" "_law_harp" st__law_harp ["bag", "most_letters", "most_strings"]) (d__law_take : Dfn P w K mg base TT kc "_law_take" 1 2 Φ__law_take) (d__law_some : Dfn P w K mg base TT kc "_law_some" 2 2 Φ__law_some) (d__law_mixed : Dfn P w K mg base TT kc "_law_mixed" 2 2 Φ__law_mixed) (v : V__law_harp) : Dfn P w K mg base TT kc "_law_harp" 3 3 Φ__law_harp := by
  refine dfn_of (k := 2) S sc__law_harp (fun f cdv A outer s H E Z ow hm hc hr hT gr => ?_) v
  have tk := takes_of (X := cxOf (L2.CX P w) P w K mg base N__law_harp "_law_harp" (defScope st__law_harp) f cdv A outer s H E) rfl rfl rfl rfl
  have po : PassesOwn (model P w) (cxOf (L2.CX P w) P w K mg base N__law_harp "_law_harp" (defScope st__law_harp) f cdv A outer s H E).A (cxOf (L2.CX P w) P w K mg base N__law_harp "_law_harp" (defScope st__law_harp) f cdv A outer s H E).env (cxOf (L2.CX P w) P w K mg base N__law_harp "_law_harp" (defScope st__law_harp) f cdv A outer s H E).xe := passes_of rfl
  have hu := room_hu hr
  skip
  exact (sim_bcons (sim_par 3 4 rfl (sim_cons (sim_callD d__law_some hT hr (by decide) tk rfl (sim_cons (sim_var 0) (sim_cons (sim_lst (sim_cons sim_int (sim_cons sim_int (sim_cons sim_int sim_nil)))) sim_nil))) (sim_cons (sim_op or_add sim_int (sim_callD d__law_take hT hr (by decide) tk rfl (sim_cons (sim_var 0) (sim_cons (sim_op or_sub (sim_var 1) sim_int) sim_nil)))) sim_nil)) sc__law_harp.nd) (sim_bcons (sim_setD 5 (sim_sl (sim_callD d__law_mixed hT hr (by decide) tk rfl (sim_cons (sim_var 0) (sim_cons (sim_lst (sim_cons sim_str (sim_cons sim_str (sim_cons sim_str (sim_cons sim_str (sim_cons sim_str (sim_cons sim_str (sim_cons sim_str (sim_cons sim_str (sim_cons sim_str sim_nil)))))))))) sim_nil))) sim_no (sim_so (sim_var 4))) sc__law_harp.nd) (sim_bcons (sim_setD 6 (sim_callB (cd_sorted hu) rfl B.b_sorted (by decide +kernel) (sim_cons (sim_sl (sim_callD d__law_mixed hT hr (by decide) tk rfl (sim_cons (sim_var 0) (sim_cons (sim_listRg1 rfl (sim_var 3) rfl B.b_list rfl B.b_range) sim_nil))) sim_no (sim_so (sim_var 4))) sim_nil)) sc__law_harp.nd) (sim_bcons (sim_setD 7 (sim_callT cd_tuple rfl B.b_tuple (by decide +kernel) (sim_cons (sim_lc (own := [("name", 8), ("base", 9)]) rfl sc__law_harp.nd gr (sim_zip rfl B.b_zip (sim_cons (sim_var 5) (sim_cons (sim_var 6) sim_nil))) (blkOk_by (N := N__law_harp) (sc := defScope st__law_harp) (by decide +kernel)) (by decide) (fun s H C cl fp => (sim_btup rfl (sim_btcons (sim_bname 8 sc__law_harp.nd) (sim_btcons (sim_bname 9 sc__law_harp.nd) sim_btnil)) (bCons_len bName_has (bCons_len bName_has bNil_len)))) (fun s H C cl fp => sim_tsnil) (fun s H C cl fp => (sim_tup (sim_cons (sim_var 8) (sim_cons (sim_var 9) (sim_cons (sim_callD d__law_take hT hr (by decide) LamX.takes0 rfl (sim_cons (sim_var 0) (sim_cons sim_int sim_nil))) sim_nil)))))) sim_nil)) sc__law_harp.nd) (sim_bone (sim_ret (sim_tup (sim_cons (sim_var 3) (sim_cons (sim_var 7) (sim_cons (sim_op or_add sim_int (sim_callD d__law_take hT hr (by decide) tk rfl (sim_cons (sim_var 0) (sim_cons (sim_var 2) sim_nil)))) (sim_cons (sim_op or_add sim_int (sim_callD d__law_take hT hr (by decide) tk rfl (sim_cons (sim_var 0) (sim_cons sim_int sim_nil)))) (sim_cons (sim_callD d__law_take hT hr (by decide) tk rfl (sim_cons (sim_var 0) (sim_cons sim_int sim_nil))) sim_nil))))))))))))
abbrev st__law_letter : Stmt := top 38
def N__law_letter : List Str := ["harp", "string"]
theorem sc__law_letter : FnScope N__law_letter ["harp", "string"] (defScope st__law_letter) := ⟨rfl, rfl, rfl, by decide +kernel, rfl, by decide +kernel, by decide +kernel⟩
def w__law_letter : WS := (wRet (wOp opMod (wCB bInt (wCons (wVar 1) wNil)) (wCB bLen (wCons (wOp opIx (wVar 0) (wC (.int 1))) wNil))))
def V__law_letter : Prop := ∀ (ys : List Val) (R : Val → Prop) (Ex : Xn → Prop), ys.length = 2 → ys.all argOk = true → Φ__law_letter ys R Ex → w__law_letter (endW R Ex) (start0 N__law_letter ys)
set_option maxHeartbeats 4000000 in
theorem s__law_letter (B : Bs mg) (S : Src K mg "_law_letter" "_law_letter" st__law_letter ["harp", "string"]) (v : V__law_letter) : Dfn P w K mg base TT kc "_law_letter" 1 2 Φ__law_letter := by
  refine dfn_of (k := 0) S sc__law_letter (fun f cdv A outer s H E Z ow hm hc hr hT gr => ?_) v
  have tk := takes_of (X := cxOf (L2.CX P w) P w K mg base N__law_letter "_law_letter" (defScope st__law_letter) f cdv A outer s H E) rfl rfl rfl rfl
  have po : PassesOwn (model P w) (cxOf (L2.CX P w) P w K mg base N__law_letter "_law_letter" (defScope st__law_letter) f cdv A outer s H E).A (cxOf (L2.CX P w) P w K mg base N__law_letter "_law_letter" (defScope st__law_letter) f cdv A outer s H E).env (cxOf (L2.CX P w) P w K mg base N__law_letter "_law_letter" (defScope st__law_letter) f cdv A outer s H E).xe := passes_of rfl
  have hu := room_hu hr
  skip
  exact (sim_bone (sim_ret (sim_op or_mod (sim_callT cd_int rfl B.b_int (by decide +kernel) (sim_cons (sim_var 1) sim_nil)) (sim_callB cd_len rfl B.b_len (by decide +kernel) (sim_cons (sim_ix (sim_var 0) sim_int) sim_nil)))))
abbrev st__law_open : Stmt := top 39
def N__law_open : List Str := ["harp", "string"]
theorem sc__law_open : FnScope N__law_open ["harp", "string"] (defScope st__law_open) := ⟨rfl, rfl, rfl, by decide +kernel, rfl, by decide +kernel, by decide +kernel⟩
def w__law_open : WS := (wRet (wOp opAdd (wOp opMul (wOp opIx (wVar 0) (wC (.int 0))) (wCB bInt (wCons (wOp opFdiv (wVar 1) (wCB bLen (wCons (wOp opIx (wVar 0) (wC (.int 1))) wNil))) wNil))) (wOp opIx (wOp opIx (wOp opIx (wVar 0) (wC (.int 1))) (wCall 2 Φ__law_letter (wCons (wVar 0) (wCons (wVar 1) wNil)))) (wC (.int 1)))))
def V__law_open : Prop := ∀ (ys : List Val) (R : Val → Prop) (Ex : Xn → Prop), ys.length = 2 → ys.all argOk = true → Φ__law_open ys R Ex → w__law_open (endW R Ex) (start0 N__law_open ys)
set_option maxHeartbeats 4000000 in
theorem s__law_open (B : Bs mg) (S : Src K mg "_law_open" "_law_open" st__law_open ["harp", "string"]) (d__law_letter : Dfn P w K mg base TT kc "_law_letter" 1 2 Φ__law_letter) (v : V__law_open) : Dfn P w K mg base TT kc "_law_open" 2 2 Φ__law_open := by
  refine dfn_of (k := 1) S sc__law_open (fun f cdv A outer s H E Z ow hm hc hr hT gr => ?_) v
  have tk := takes_of (X := cxOf (L2.CX P w) P w K mg base N__law_open "_law_open" (defScope st__law_open) f cdv A outer s H E) rfl rfl rfl rfl
  have po : PassesOwn (model P w) (cxOf (L2.CX P w) P w K mg base N__law_open "_law_open" (defScope st__law_open) f cdv A outer s H E).A (cxOf (L2.CX P w) P w K mg base N__law_open "_law_open" (defScope st__law_open) f cdv A outer s H E).env (cxOf (L2.CX P w) P w K mg base N__law_open "_law_open" (defScope st__law_open) f cdv A outer s H E).xe := passes_of rfl
  have hu := room_hu hr
  skip
  exact (sim_bone (sim_ret (sim_op or_add (sim_op or_mul (sim_ix (sim_var 0) sim_int) (sim_callT cd_int rfl B.b_int (by decide +kernel) (sim_cons (sim_op or_fdiv (sim_var 1) (sim_callB cd_len rfl B.b_len (by decide +kernel) (sim_cons (sim_ix (sim_var 0) sim_int) sim_nil))) sim_nil))) (sim_ix (sim_ix (sim_ix (sim_var 0) sim_int) (sim_callD d__law_letter hT hr (by decide) tk rfl (sim_cons (sim_var 0) (sim_cons (sim_var 1) sim_nil)))) sim_int))))
abbrev st__law_pitch : Stmt := top 40
def N__law_pitch : List Str := ["harp", "setting", "string"]
theorem sc__law_pitch : FnScope N__law_pitch ["harp", "setting", "string"] (defScope st__law_pitch) := ⟨rfl, rfl, rfl, by decide +kernel, rfl, by decide +kernel, by decide +kernel⟩
def w__law_pitch : WS := (wRet (wOp opAdd (wCall 2 Φ__law_open (wCons (wVar 0) (wCons (wVar 2) wNil))) (wOp opIx (wVar 1) (wCall 2 Φ__law_letter (wCons (wVar 0) (wCons (wVar 2) wNil))))))
def V__law_pitch : Prop := ∀ (ys : List Val) (R : Val → Prop) (Ex : Xn → Prop), ys.length = 3 → ys.all argOk = true → Φ__law_pitch ys R Ex → w__law_pitch (endW R Ex) (start0 N__law_pitch ys)
set_option maxHeartbeats 4000000 in
theorem s__law_pitch (B : Bs mg) (S : Src K mg "_law_pitch" "_law_pitch" st__law_pitch ["harp", "setting", "string"]) (d__law_open : Dfn P w K mg base TT kc "_law_open" 2 2 Φ__law_open) (d__law_letter : Dfn P w K mg base TT kc "_law_letter" 1 2 Φ__law_letter) (v : V__law_pitch) : Dfn P w K mg base TT kc "_law_pitch" 3 3 Φ__law_pitch := by
  refine dfn_of (k := 2) S sc__law_pitch (fun f cdv A outer s H E Z ow hm hc hr hT gr => ?_) v
  have tk := takes_of (X := cxOf (L2.CX P w) P w K mg base N__law_pitch "_law_pitch" (defScope st__law_pitch) f cdv A outer s H E) rfl rfl rfl rfl
  have po : PassesOwn (model P w) (cxOf (L2.CX P w) P w K mg base N__law_pitch "_law_pitch" (defScope st__law_pitch) f cdv A outer s H E).A (cxOf (L2.CX P w) P w K mg base N__law_pitch "_law_pitch" (defScope st__law_pitch) f cdv A outer s H E).env (cxOf (L2.CX P w) P w K mg base N__law_pitch "_law_pitch" (defScope st__law_pitch) f cdv A outer s H E).xe := passes_of rfl
  have hu := room_hu hr
  skip
  exact (sim_bone (sim_ret (sim_op or_add (sim_callD d__law_open hT hr (by decide) tk rfl (sim_cons (sim_var 0) (sim_cons (sim_var 2) sim_nil))) (sim_ix (sim_var 1) (sim_callD d__law_letter hT hr (by decide) tk rfl (sim_cons (sim_var 0) (sim_cons (sim_var 2) sim_nil)))))))
abbrev st__law_setting : Stmt := top 41
def N__law_setting : List Str := ["bag", "harp", "letter"]
theorem sc__law_setting : FnScope N__law_setting ["bag", "harp"] (defScope st__law_setting) := ⟨rfl, rfl, rfl, by decide +kernel, rfl, by decide +kernel, by decide +kernel⟩
def psc__law_setting_136_17 : Scope := { kind := PySem.ScopeKind.function, names := [ (PySem.Str.ofString ".0", PySem.NameKind.local), (PySem.Str.ofString "letter", PySem.NameKind.local), (PySem.Str.ofString "_law_take", PySem.NameKind.globalImplicit), (PySem.Str.ofString "bag", PySem.NameKind.free)], isGenerator := false, isCoroutine := false, more := [] : PySem.Scope }
def w__law_setting : WS := (wRet (wCB bTuple (wCons (wLc (wIt (wOp opIx (wVar 1) (wC (.int 1)))) (bName 2) wYes (wOp opSub (wCall 2 Φ__law_take (wCons (wVar 0) (wCons (wC (.int 3)) wNil))) (wC (.int 1))) [2]) wNil)))
def V__law_setting : Prop := ∀ (ys : List Val) (R : Val → Prop) (Ex : Xn → Prop), ys.length = 2 → ys.all argOk = true → Φ__law_setting ys R Ex → w__law_setting (endW R Ex) (start0 N__law_setting ys)
set_option maxHeartbeats 4000000 in
theorem s__law_setting (B : Bs mg) (S : Src K mg "_law_setting" "_law_setting" st__law_setting ["bag", "harp"]) (d__law_take : Dfn P w K mg base TT kc "_law_take" 1 2 Φ__law_take) (v : V__law_setting) : Dfn P w K mg base TT kc "_law_setting" 2 2 Φ__law_setting := by
  refine dfn_of (k := 1) S sc__law_setting (fun f cdv A outer s H E Z ow hm hc hr hT gr => ?_) v
  have tk := takes_of (X := cxOf (L2.CX P w) P w K mg base N__law_setting "_law_setting" (defScope st__law_setting) f cdv A outer s H E) rfl rfl rfl rfl
  have po : PassesOwn (model P w) (cxOf (L2.CX P w) P w K mg base N__law_setting "_law_setting" (defScope st__law_setting) f cdv A outer s H E).A (cxOf (L2.CX P w) P w K mg base N__law_setting "_law_setting" (defScope st__law_setting) f cdv A outer s H E).env (cxOf (L2.CX P w) P w K mg base N__law_setting "_law_setting" (defScope st__law_setting) f cdv A outer s H E).xe := passes_of rfl
  have hu := room_hu hr
  skip
  exact (sim_bone (sim_ret (sim_callT cd_tuple rfl B.b_tuple (by decide +kernel) (sim_cons (sim_lc (own := [("letter", 2)]) rfl sc__law_setting.nd gr (sim_it (sim_ix (sim_var 1) sim_int)) (blkOk_by (N := N__law_setting) (sc := defScope st__law_setting) (by decide +kernel)) (by decide) (fun s H C cl fp => (sim_bname 2 sc__law_setting.nd)) (fun s H C cl fp => sim_tsnil) (fun s H C cl fp => (sim_op or_sub (sim_callD d__law_take hT hr (by decide) LamX.takes0 rfl (sim_cons (sim_var 0) (sim_cons sim_int sim_nil))) sim_int))) sim_nil))))
abbrev st__law_fits : Stmt := top 42
def N__law_fits : List Str := ["harp", "lot"]
theorem sc__law_fits : FnScope N__law_fits ["harp", "lot"] (defScope st__law_fits) := ⟨rfl, rfl, rfl, by decide +kernel, rfl, by decide +kernel, by decide +kernel⟩
def w__law_fits : WS := (wRet (wAnd (wOp opLe (wCB bLen (wCons (wVar 1) wNil)) (wOp opIx (wVar 0) (wC (.int 3)))) (wOr (wOp opEq (wCB bLen (wCons (wVar 1) wNil)) (wC (.int 0))) (wOp opLe (wOp opSub (wOp opIx (wVar 1) (wNeg (wC (.int 1)))) (wOp opIx (wVar 1) (wC (.int 0)))) (wOp opIx (wVar 0) (wC (.int 4)))))))
def V__law_fits : Prop := ∀ (ys : List Val) (R : Val → Prop) (Ex : Xn → Prop), ys.length = 2 → ys.all argOk = true → Φ__law_fits ys R Ex → w__law_fits (endW R Ex) (start0 N__law_fits ys)
set_option maxHeartbeats 4000000 in
theorem s__law_fits (B : Bs mg) (S : Src K mg "_law_fits" "_law_fits" st__law_fits ["harp", "lot"]) (v : V__law_fits) : Dfn P w K mg base TT kc "_law_fits" 1 2 Φ__law_fits := by
  refine dfn_of (k := 0) S sc__law_fits (fun f cdv A outer s H E Z ow hm hc hr hT gr => ?_) v
  have tk := takes_of (X := cxOf (L2.CX P w) P w K mg base N__law_fits "_law_fits" (defScope st__law_fits) f cdv A outer s H E) rfl rfl rfl rfl
  have po : PassesOwn (model P w) (cxOf (L2.CX P w) P w K mg base N__law_fits "_law_fits" (defScope st__law_fits) f cdv A outer s H E).A (cxOf (L2.CX P w) P w K mg base N__law_fits "_law_fits" (defScope st__law_fits) f cdv A outer s H E).env (cxOf (L2.CX P w) P w K mg base N__law_fits "_law_fits" (defScope st__law_fits) f cdv A outer s H E).xe := passes_of rfl
  have hu := room_hu hr
  skip
  exact (sim_bone (sim_ret (sim_vand (sim_cmp or_le (sim_callB cd_len rfl B.b_len (by decide +kernel) (sim_cons (sim_var 1) sim_nil)) (sim_ix (sim_var 0) sim_int)) (sim_vone (sim_vor (sim_cmp (or_eq (room_hu hr)) (sim_callB cd_len rfl B.b_len (by decide +kernel) (sim_cons (sim_var 1) sim_nil)) sim_int) (sim_vone (sim_cmp or_le (sim_op or_sub (sim_ix (sim_var 1) (sim_neg sim_int)) (sim_ix (sim_var 1) sim_int)) (sim_ix (sim_var 0) sim_int))))))))
abbrev st__law_left_many : Stmt := top 43
def N__law_left_many : List Str := ["harp", "strings", "found", "many"]
theorem sc__law_left_many : FnScope N__law_left_many ["harp", "strings"] (defScope st__law_left_many) := ⟨rfl, rfl, rfl, by decide +kernel, rfl, by decide +kernel, by decide +kernel⟩
def psc__law_left_many_140_12 : Scope := { kind := PySem.ScopeKind.function, names := [ (PySem.Str.ofString ".0", PySem.NameKind.local), (PySem.Str.ofString "many", PySem.NameKind.local), (PySem.Str.ofString "_law_fits", PySem.NameKind.globalImplicit), (PySem.Str.ofString "harp", PySem.NameKind.free), (PySem.Str.ofString "strings", PySem.NameKind.free)], isGenerator := false, isCoroutine := false, more := [] : PySem.Scope }
def w__law_left_many : WS := (wSeq (wSetD 2 (wLc (wRng1 (wCons (wOp opAdd (wCB bLen (wCons (wVar 1) wNil)) (wC (.int 1))) wNil)) (bName 3) (wTand (wTv (wCall 2 Φ__law_fits (wCons (wVar 0) (wCons (wSl (wVar 1) wNo (wSo (wVar 3))) wNil)))) (wTv (wCall 2 Φ__law_fits (wCons (wVar 0) (wCons (wSl (wVar 1) (wSo (wVar 3)) wNo) wNil))))) (wVar 3) [3])) (wRet (wIf (wTv (wOp opNe (wVar 2) (wLst wNil))) (wOp opIx (wVar 2) (wC (.int 0))) (wC .none))))
def V__law_left_many : Prop := ∀ (ys : List Val) (R : Val → Prop) (Ex : Xn → Prop), ys.length = 2 → ys.all argOk = true → Φ__law_left_many ys R Ex → w__law_left_many (endW R Ex) (start0 N__law_left_many ys)
set_option maxHeartbeats 4000000 in
theorem s__law_left_many (B : Bs mg) (S : Src K mg "_law_left_many" "_law_left_many" st__law_left_many ["harp", "strings"]) (d__law_fits : Dfn P w K mg base TT kc "_law_fits" 1 2 Φ__law_fits) (v : V__law_left_many) : Dfn P w K mg base TT kc "_law_left_many" 2 2 Φ__law_left_many := by
  refine dfn_of (k := 1) S sc__law_left_many (fun f cdv A outer s H E Z ow hm hc hr hT gr => ?_) v
  have tk := takes_of (X := cxOf (L2.CX P w) P w K mg base N__law_left_many "_law_left_many" (defScope st__law_left_many) f cdv A outer s H E) rfl rfl rfl rfl
  have po : PassesOwn (model P w) (cxOf (L2.CX P w) P w K mg base N__law_left_many "_law_left_many" (defScope st__law_left_many) f cdv A outer s H E).A (cxOf (L2.CX P w) P w K mg base N__law_left_many "_law_left_many" (defScope st__law_left_many) f cdv A outer s H E).env (cxOf (L2.CX P w) P w K mg base N__law_left_many "_law_left_many" (defScope st__law_left_many) f cdv A outer s H E).xe := passes_of rfl
  have hu := room_hu hr
  skip
  exact (sim_bcons (sim_setLcD 2 (own := [("many", 3)]) rfl sc__law_left_many.nd gr (sim_rng1 rfl B.b_range (sim_cons (sim_op or_add (sim_callB cd_len rfl B.b_len (by decide +kernel) (sim_cons (sim_var 1) sim_nil)) sim_int) sim_nil)) (blkOk_by (N := N__law_left_many) (sc := defScope st__law_left_many) (by decide +kernel)) (by decide) (fun s H C cl fp => (sim_bname 3 sc__law_left_many.nd)) (fun s H C cl fp => (sim_tsone (SimW.t (sim_and (sim_tv (sim_callD d__law_fits hT hr (by decide) LamX.takes0 rfl (sim_cons (sim_var 0) (sim_cons (sim_sl (sim_var 1) sim_no (sim_so (sim_var 3))) sim_nil)))) (sim_and1 (sim_tv (sim_callD d__law_fits hT hr (by decide) LamX.takes0 rfl (sim_cons (sim_var 0) (sim_cons (sim_sl (sim_var 1) (sim_so (sim_var 3)) sim_no) sim_nil))))))))) (fun s H C cl fp => (sim_var 3))) (sim_bone (sim_ret (sim_ifx (sim_tcmp (or_ne (room_hu hr)) (sim_var 2) (sim_lst sim_nil)) (sim_ix (sim_var 2) sim_int) sim_non))))
abbrev st__law_last : Stmt := top 44
def N__law_last : List Str := ["note"]
theorem sc__law_last : FnScope N__law_last ["note"] (defScope st__law_last) := ⟨rfl, rfl, rfl, by decide +kernel, rfl, by decide +kernel, by decide +kernel⟩
def w__law_last : WS := (wRet (wOp opSub (wOp opAdd (wOp opIx (wVar 0) (wC (.int 0))) (wOp opIx (wVar 0) (wC (.int 2)))) (wC (.int 1))))
def V__law_last : Prop := ∀ (ys : List Val) (R : Val → Prop) (Ex : Xn → Prop), ys.length = 1 → ys.all argOk = true → Φ__law_last ys R Ex → w__law_last (endW R Ex) (start0 N__law_last ys)
set_option maxHeartbeats 4000000 in
theorem s__law_last (B : Bs mg) (S : Src K mg "_law_last" "_law_last" st__law_last ["note"]) (v : V__law_last) : Dfn P w K mg base TT kc "_law_last" 1 1 Φ__law_last := by
  refine dfn_of (k := 0) S sc__law_last (fun f cdv A outer s H E Z ow hm hc hr hT gr => ?_) v
  have tk := takes_of (X := cxOf (L2.CX P w) P w K mg base N__law_last "_law_last" (defScope st__law_last) f cdv A outer s H E) rfl rfl rfl rfl
  have po : PassesOwn (model P w) (cxOf (L2.CX P w) P w K mg base N__law_last "_law_last" (defScope st__law_last) f cdv A outer s H E).A (cxOf (L2.CX P w) P w K mg base N__law_last "_law_last" (defScope st__law_last) f cdv A outer s H E).env (cxOf (L2.CX P w) P w K mg base N__law_last "_law_last" (defScope st__law_last) f cdv A outer s H E).xe := passes_of rfl
  have hu := room_hu hr
  skip
  exact (sim_bone (sim_ret (sim_op or_sub (sim_op or_add (sim_ix (sim_var 0) sim_int) (sim_ix (sim_var 0) sim_int)) sim_int)))
abbrev st__law_moved : Stmt := top 45
def N__law_moved : List Str := ["setting", "letter", "way", "position"]
theorem sc__law_moved : FnScope N__law_moved ["setting", "letter", "way"] (defScope st__law_moved) := ⟨rfl, rfl, rfl, by decide +kernel, rfl, by decide +kernel, by decide +kernel⟩
def w__law_moved : WS := (wSeq (wSetD 3 (wCB bMax2 (wCons (wNeg (wC (.int 1))) (wCons (wCB bMin2 (wCons (wC (.int 1)) (wCons (wOp opAdd (wOp opIx (wVar 0) (wVar 1)) (wVar 2)) wNil))) wNil)))) (wRet (wOp opAdd (wOp opAdd (wSl (wVar 0) wNo (wSo (wVar 1))) (wTup (wCons (wVar 3) wNil))) (wSl (wVar 0) (wSo (wOp opAdd (wVar 1) (wC (.int 1)))) wNo))))
def V__law_moved : Prop := ∀ (ys : List Val) (R : Val → Prop) (Ex : Xn → Prop), ys.length = 3 → ys.all argOk = true → Φ__law_moved ys R Ex → w__law_moved (endW R Ex) (start0 N__law_moved ys)
set_option maxHeartbeats 4000000 in
theorem s__law_moved (B : Bs mg) (S : Src K mg "_law_moved" "_law_moved" st__law_moved ["setting", "letter", "way"]) (v : V__law_moved) : Dfn P w K mg base TT kc "_law_moved" 1 3 Φ__law_moved := by
  refine dfn_of (k := 0) S sc__law_moved (fun f cdv A outer s H E Z ow hm hc hr hT gr => ?_) v
  have tk := takes_of (X := cxOf (L2.CX P w) P w K mg base N__law_moved "_law_moved" (defScope st__law_moved) f cdv A outer s H E) rfl rfl rfl rfl
  have po : PassesOwn (model P w) (cxOf (L2.CX P w) P w K mg base N__law_moved "_law_moved" (defScope st__law_moved) f cdv A outer s H E).A (cxOf (L2.CX P w) P w K mg base N__law_moved "_law_moved" (defScope st__law_moved) f cdv A outer s H E).env (cxOf (L2.CX P w) P w K mg base N__law_moved "_law_moved" (defScope st__law_moved) f cdv A outer s H E).xe := passes_of rfl
  have hu := room_hu hr
  skip
  exact (sim_bcons (sim_setD 3 (sim_callB (cd_max2 rfl) rfl B.b_max (by decide +kernel) (sim_cons (sim_neg sim_int) (sim_cons (sim_callB (cd_min2 rfl) rfl B.b_min (by decide +kernel) (sim_cons sim_int (sim_cons (sim_op or_add (sim_ix (sim_var 0) (sim_var 1)) (sim_var 2)) sim_nil))) sim_nil))) sc__law_moved.nd) (sim_bone (sim_ret (sim_op or_add (sim_op or_add (sim_sl (sim_var 0) sim_no (sim_so (sim_var 1))) (sim_tup (sim_cons (sim_var 3) sim_nil))) (sim_sl (sim_var 0) (sim_so (sim_op or_add (sim_var 1) sim_int)) sim_no)))))
abbrev st__law_drawn_part : Stmt := top 46
def N__law_drawn_part : List Str := ["bag", "harp", "most_ticks", "busy", "ticks", "first", "setting", "rows", "steps", "tick", "plucked", "turn", "string", "length", "note", "free", "one", "its", "held", "foot", "some", "letter", "told", "way"]
theorem sc__law_drawn_part : FnScope N__law_drawn_part ["bag", "harp", "most_ticks", "busy"] (defScope st__law_drawn_part) := ⟨rfl, rfl, rfl, by decide +kernel, rfl, by decide +kernel, by decide +kernel⟩
def psc__law_drawn_part_155_19 : Scope := { kind := PySem.ScopeKind.function, names := [ (PySem.Str.ofString ".0", PySem.NameKind.local), (PySem.Str.ofString "one", PySem.NameKind.local), (PySem.Str.ofString "its", PySem.NameKind.local), (PySem.Str.ofString "_law_last", PySem.NameKind.globalImplicit), (PySem.Str.ofString "note", PySem.NameKind.free), (PySem.Str.ofString "string", PySem.NameKind.free), (PySem.Str.ofString "tick", PySem.NameKind.free)], isGenerator := false, isCoroutine := false, more := [] : PySem.Scope }
def w__law_drawn_part_1 : WS := (wSeq (wSetD 15 (wOp opEq (wThaw 7 (wLc (wItL (wVar 7)) (bTup (bCons (bName 16) (bCons (bName 17) bNil))) (wTor (wTand (wTv (wOp opEq (wVar 17) (wVar 12))) (wTv (wOp opGe (wCall 1 Φ__law_last (wCons (wVar 16) wNil)) (wVar 9)))) (wTv (wOp opEq (wVar 16) (wVar 14)))) (wC (.int 1)) [16, 17])) (wLst wNil))) (wIfS (wTand (wTv (wVar 15)) (wTv (wIsN true (wCall 2 Φ__law_left_many (wCons (wVar 1) (wCons (wCB bSorted (wCons (wOp opAdd (wVar 10) (wLst (wCons (wVar 12) wNil))) wNil)) wNil)))))) (wSeq (wMt 10 mAppend (wCons (wVar 12) wNil)) (wMt 7 mAppend (wCons (wTup (wCons (wVar 14) (wCons (wVar 12) wNil))) wNil))) wSkip))
def w__law_drawn_part_2 : WS := (wSeq (wSetD 14 (wTup (wCons (wVar 9) (wCons (wCall 3 Φ__law_pitch (wCons (wVar 1) (wCons (wVar 6) (wCons (wVar 12) wNil)))) (wCons (wVar 13) wNil))))) w__law_drawn_part_1)
def psc__law_drawn_part_159_15 : Scope := { kind := PySem.ScopeKind.function, names := [ (PySem.Str.ofString ".0", PySem.NameKind.local), (PySem.Str.ofString "note", PySem.NameKind.local), (PySem.Str.ofString "string", PySem.NameKind.local), (PySem.Str.ofString "_law_last", PySem.NameKind.globalImplicit), (PySem.Str.ofString "_law_letter", PySem.NameKind.globalImplicit), (PySem.Str.ofString "harp", PySem.NameKind.free), (PySem.Str.ofString "tick", PySem.NameKind.free)], isGenerator := false, isCoroutine := false, more := [] : PySem.Scope }
def psc__law_drawn_part_163_28 : Scope := { kind := PySem.ScopeKind.function, names := [ (PySem.Str.ofString ".0", PySem.NameKind.local), (PySem.Str.ofString "way", PySem.NameKind.local), (PySem.Str.ofString "abs", PySem.NameKind.globalImplicit), (PySem.Str.ofString "foot", PySem.NameKind.free), (PySem.Str.ofString "held", PySem.NameKind.free), (PySem.Str.ofString "letter", PySem.NameKind.free), (PySem.Str.ofString "setting", PySem.NameKind.free), (PySem.Str.ofString "told", PySem.NameKind.free)], isGenerator := false, isCoroutine := false, more := [] : PySem.Scope }
def w__law_drawn_part_3 : WS := (wSeq (wMt 8 mAppend (wCons (wTup (wCons (wVar 9) (wCons (wVar 21) (wCons (wVar 23) wNil)))) wNil)) (wSetD 6 (wCall 3 Φ__law_moved (wCons (wVar 6) (wCons (wVar 21) (wCons (wVar 23) wNil))))))
def w__law_drawn_part_4 : WS := (wSeq (wFor (wEnum (wCons (wOp opIx (wVar 1) (wC (.int 1))) wNil)) (bTup (bCons (bName 21) (bCons (bName 22) bNil))) (wMt 20 mExtend (wCons (wLc (wIt (wTup (wCons (wNeg (wC (.int 1))) (wCons (wC (.int 1)) wNil)))) (bName 23) (wTand (wTv (wOp opEq (wOp opIx (wVar 22) (wC (.int 2))) (wVar 19))) (wTand (wTv (wOp opNin (wVar 21) (wVar 18))) (wTv (wOp opLe (wCB bAbs (wCons (wOp opAdd (wOp opIx (wVar 6) (wVar 21)) (wVar 23)) wNil)) (wC (.int 1)))))) (wTup (wCons (wVar 21) (wCons (wVar 23) wNil))) [23]) wNil))) (wIfS (wTand (wTv (wOp opNe (wVar 20) (wLst wNil))) (wTand (wTv (wOp opLt (wOp opAdd (wVar 9) (wC (.int 1))) (wVar 4))) (wTv (wOp opNe (wCall 2 Φ__law_take (wCons (wVar 0) (wCons (wC (.int 3)) wNil))) (wC (.int 0)))))) (wSeq (wAsg (bTup (bCons (bName 21) (bCons (bName 23) bNil))) (wThaw 20 (wCall 2 Φ__law_some (wCons (wVar 0) (wCons (wVar 20) wNil))))) w__law_drawn_part_3) wSkip))
def w__law_drawn_part_5 : WS := (wSeq (wSetD 18 (wThaw 7 (wLc (wItL (wVar 7)) (bTup (bCons (bName 14) (bCons (bName 12) bNil))) (wTv (wOp opGt (wCall 1 Φ__law_last (wCons (wVar 14) wNil)) (wVar 9))) (wCall 2 Φ__law_letter (wCons (wVar 1) (wCons (wVar 12) wNil))) [14, 12]))) (wFor (wIt (wTup (wCons (wC (.int 0)) (wCons (wC (.int 1)) wNil)))) (bName 19) (wSeq (wSet 20 (wLst wNil)) w__law_drawn_part_4)))
def w__law_drawn_part_6 : WS := (wSeq (wFor (wRng1 (wCons (wCall 2 Φ__law_take (wCons (wVar 0) (wCons (wOp opAdd (wVar 3) (wC (.int 1))) wNil))) wNil)) (bName 11) (wSeq (wAsg (bTup (bCons (bName 12) (bCons (bName 13) bNil))) (wTup (wCons (wCall 2 Φ__law_take (wCons (wVar 0) (wCons (wOp opIx (wVar 1) (wC (.int 2))) wNil))) (wCons (wOp opAdd (wC (.int 1)) (wCall 2 Φ__law_take (wCons (wVar 0) (wCons (wCB bMin2 (wCons (wC (.int 3)) (wCons (wOp opSub (wVar 4) (wVar 9)) wNil))) wNil)))) wNil)))) w__law_drawn_part_2)) w__law_drawn_part_5)
def psc__law_drawn_part_169_75 : Scope := { kind := PySem.ScopeKind.function, names := [ (PySem.Str.ofString ".0", PySem.NameKind.local), (PySem.Str.ofString "note", PySem.NameKind.local), (PySem.Str.ofString "string", PySem.NameKind.local)], isGenerator := false, isCoroutine := false, more := [] : PySem.Scope }
def psc__law_drawn_part_169_26 : Scope := { kind := PySem.ScopeKind.function, names := [ (PySem.Str.ofString ".0", PySem.NameKind.local), (PySem.Str.ofString "note", PySem.NameKind.local), (PySem.Str.ofString "string", PySem.NameKind.local)], isGenerator := false, isCoroutine := false, more := [] : PySem.Scope }
def w__law_drawn_part_7 : WS := (wSeq (wSet 7 (wCB bSorted (wCons (wVar 7) wNil))) (wRet (wTup (wCons (wTup (wCons (wVar 4) (wCons (wCB bTuple (wCons (wThaw 7 (wLc (wItL (wVar 7)) (bTup (bCons (bName 14) (bCons (bName 12) bNil))) wYes (wVar 14) [14, 12])) wNil)) wNil))) (wCons (wTup (wCons (wVar 5) (wCons (wCB bTuple (wCons (wThaw 7 (wLc (wItL (wVar 7)) (bTup (bCons (bName 14) (bCons (bName 12) bNil))) wYes (wVar 12) [14, 12])) wNil)) (wCons (wCB bTuple (wCons (wCB bSorted (wCons (wVar 8) wNil)) wNil)) wNil)))) wNil)))))
def w__law_drawn_part_8 : WS := (wSeq (wFor (wRng1 (wCons (wVar 4) wNil)) (bName 9) (wSeq (wSet 10 (wLst wNil)) w__law_drawn_part_6)) w__law_drawn_part_7)
def w__law_drawn_part_9 : WS := (wSeq (wUnp [6, 7, 8] (wUcons (wVar 5) (wUcons (wLst wNil) (wUcons (wLst wNil) wNil)))) w__law_drawn_part_8)
def w__law_drawn_part : WS := (wSeq (wPar 4 5 (wCons (wOp opAdd (wC (.int 1)) (wCall 2 Φ__law_take (wCons (wVar 0) (wCons (wVar 2) wNil)))) (wCons (wCall 2 Φ__law_setting (wCons (wVar 0) (wCons (wVar 1) wNil))) wNil))) w__law_drawn_part_9)
def V__law_drawn_part : Prop := ∀ (ys : List Val) (R : Val → Prop) (Ex : Xn → Prop), ys.length = 4 → ys.all argOk = true → Φ__law_drawn_part ys R Ex → w__law_drawn_part (endW R Ex) (start0 N__law_drawn_part ys)
set_option maxHeartbeats 4000000 in
theorem s__law_drawn_part (B : Bs mg) (S : Src K mg "_law_drawn_part" "_law_drawn_part" st__law_drawn_part ["bag", "harp", "most_ticks", "busy"]) (d__law_setting : Dfn P w K mg base TT kc "_law_setting" 2 2 Φ__law_setting) (d__law_take : Dfn P w K mg base TT kc "_law_take" 1 2 Φ__law_take) (d__law_pitch : Dfn P w K mg base TT kc "_law_pitch" 3 3 Φ__law_pitch) (d__law_last : Dfn P w K mg base TT kc "_law_last" 1 1 Φ__law_last) (d__law_left_many : Dfn P w K mg base TT kc "_law_left_many" 2 2 Φ__law_left_many) (d__law_letter : Dfn P w K mg base TT kc "_law_letter" 1 2 Φ__law_letter) (d__law_some : Dfn P w K mg base TT kc "_law_some" 2 2 Φ__law_some) (d__law_moved : Dfn P w K mg base TT kc "_law_moved" 1 3 Φ__law_moved) (v : V__law_drawn_part) : Dfn P w K mg base TT kc "_law_drawn_part" 4 4 Φ__law_drawn_part := by
  refine dfn_of (k := 3) S sc__law_drawn_part (fun f cdv A outer s H E Z ow hm hc hr hT gr => ?_) v
  have tk := takes_of (X := cxOf (L2.CX P w) P w K mg base N__law_drawn_part "_law_drawn_part" (defScope st__law_drawn_part) f cdv A outer s H E) rfl rfl rfl rfl
  have po : PassesOwn (model P w) (cxOf (L2.CX P w) P w K mg base N__law_drawn_part "_law_drawn_part" (defScope st__law_drawn_part) f cdv A outer s H E).A (cxOf (L2.CX P w) P w K mg base N__law_drawn_part "_law_drawn_part" (defScope st__law_drawn_part) f cdv A outer s H E).env (cxOf (L2.CX P w) P w K mg base N__law_drawn_part "_law_drawn_part" (defScope st__law_drawn_part) f cdv A outer s H E).xe := passes_of rfl
  have hu := room_hu hr
  skip
  exact (sim_bcons (sim_par 4 5 rfl (sim_cons (sim_op or_add sim_int (sim_callD d__law_take hT hr (by decide) tk rfl (sim_cons (sim_var 0) (sim_cons (sim_var 2) sim_nil)))) (sim_cons (sim_callD d__law_setting hT hr (by decide) tk rfl (sim_cons (sim_var 0) (sim_cons (sim_var 1) sim_nil))) sim_nil)) sc__law_drawn_part.nd) (sim_bcons (sim_unpT rfl sc__law_drawn_part.nd (sim_ucons (sim_var 5) (sim_ucons (sim_lst sim_nil) (sim_ucons (sim_lst sim_nil) sim_unil))) (Nms.cons rfl (by first | exact Or.inl rfl | exact Or.inr rfl) (by first | exact .inl rfl | exact .inr rfl) rfl (Nms.cons rfl (by first | exact Or.inl rfl | exact Or.inr rfl) (by first | exact .inl rfl | exact .inr rfl) rfl (Nms.cons rfl (by first | exact Or.inl rfl | exact Or.inr rfl) (by first | exact .inl rfl | exact .inr rfl) rfl Nms.nil)))) (sim_bcons (sim_for po rfl (sim_rng1 rfl B.b_range (sim_cons (sim_var 4) sim_nil)) (sim_bname 9 sc__law_drawn_part.nd) (sim_bcons (sim_set 10 (sim_lst sim_nil) sc__law_drawn_part.nd) (sim_bcons (sim_for po rfl (sim_rng1 rfl B.b_range (sim_cons (sim_callD d__law_take hT hr (by decide) tk rfl (sim_cons (sim_var 0) (sim_cons (sim_op or_add (sim_var 3) sim_int) sim_nil))) sim_nil)) (sim_bname 11 sc__law_drawn_part.nd) (sim_bcons (sim_asg (sim_tup (sim_cons (sim_callD d__law_take hT hr (by decide) tk rfl (sim_cons (sim_var 0) (sim_cons (sim_ix (sim_var 1) sim_int) sim_nil))) (sim_cons (sim_op or_add sim_int (sim_callD d__law_take hT hr (by decide) tk rfl (sim_cons (sim_var 0) (sim_cons (sim_callB (cd_min2 rfl) rfl B.b_min (by decide +kernel) (sim_cons sim_int (sim_cons (sim_op or_sub (sim_var 4) (sim_var 9)) sim_nil))) sim_nil)))) sim_nil))) (sim_btup rfl (sim_btcons (sim_bname 12 sc__law_drawn_part.nd) (sim_btcons (sim_bname 13 sc__law_drawn_part.nd) sim_btnil)) (bCons_len bName_has (bCons_len bName_has bNil_len)))) (sim_bcons (sim_setD 14 (sim_tup (sim_cons (sim_var 9) (sim_cons (sim_callD d__law_pitch hT hr (by decide) tk rfl (sim_cons (sim_var 1) (sim_cons (sim_var 6) (sim_cons (sim_var 12) sim_nil)))) (sim_cons (sim_var 13) sim_nil)))) sc__law_drawn_part.nd) (sim_bcons (sim_setD 15 (sim_cmp (or_eq (room_hu hr)) (sim_thaw 7 gr (sim_lc (own := [("one", 16), ("its", 17)]) rfl sc__law_drawn_part.nd gr (sim_itL (sim_var 7)) (blkOk_by (N := N__law_drawn_part) (sc := defScope st__law_drawn_part) (by decide +kernel)) (by decide) (fun s H C cl fp => (sim_btup rfl (sim_btcons (sim_bname 16 sc__law_drawn_part.nd) (sim_btcons (sim_bname 17 sc__law_drawn_part.nd) sim_btnil)) (bCons_len bName_has (bCons_len bName_has bNil_len)))) (fun s H C cl fp => (sim_tsone (SimW.t (sim_or (SimW.t (sim_and (sim_tcmp (or_eq (room_hu hr)) (sim_var 17) (sim_var 12)) (sim_and1 (sim_tcmp or_ge (sim_callD d__law_last hT hr (by decide) LamX.takes0 rfl (sim_cons (sim_var 16) sim_nil)) (sim_var 9))))) (sim_or1 (sim_tcmp (or_eq (room_hu hr)) (sim_var 16) (sim_var 14))))))) (fun s H C cl fp => sim_int))) (sim_lst sim_nil)) sc__law_drawn_part.nd) (sim_bone (sim_if (SimW.t (sim_and (sim_tv (sim_var 15)) (sim_and1 (sim_tnotN (sim_callD d__law_left_many hT hr (by decide) tk rfl (sim_cons (sim_var 1) (sim_cons (sim_callB (cd_sorted hu) rfl B.b_sorted (by decide +kernel) (sim_cons (sim_op or_add (sim_var 10) (sim_lst (sim_cons (sim_var 12) sim_nil))) sim_nil)) sim_nil))))))) (sim_bcons (sim_mt mt_append mo_append 10 PySem.F.slot_list_append PySem.F.type_list_append (sim_cons (sim_var 12) sim_nil)) (sim_bone (sim_mt mt_append mo_append 7 PySem.F.slot_list_append PySem.F.type_list_append (sim_cons (sim_tup (sim_cons (sim_var 14) (sim_cons (sim_var 12) sim_nil))) sim_nil)))) sim_bnil)))))) (sim_bcons (sim_setD 18 (sim_thaw 7 gr (sim_lc (own := [("note", 14), ("string", 12)]) rfl sc__law_drawn_part.nd gr (sim_itL (sim_var 7)) (blkOk_by (N := N__law_drawn_part) (sc := defScope st__law_drawn_part) (by decide +kernel)) (by decide) (fun s H C cl fp => (sim_btup rfl (sim_btcons (sim_bname 14 sc__law_drawn_part.nd) (sim_btcons (sim_bname 12 sc__law_drawn_part.nd) sim_btnil)) (bCons_len bName_has (bCons_len bName_has bNil_len)))) (fun s H C cl fp => (sim_tsone (sim_tcmp or_gt (sim_callD d__law_last hT hr (by decide) LamX.takes0 rfl (sim_cons (sim_var 14) sim_nil)) (sim_var 9)))) (fun s H C cl fp => (sim_callD d__law_letter hT hr (by decide) LamX.takes0 rfl (sim_cons (sim_var 1) (sim_cons (sim_var 12) sim_nil)))))) sc__law_drawn_part.nd) (sim_bone (sim_for po rfl (sim_it (sim_tup (sim_cons sim_int (sim_cons sim_int sim_nil)))) (sim_bname 19 sc__law_drawn_part.nd) (sim_bcons (sim_set 20 (sim_lst sim_nil) sc__law_drawn_part.nd) (sim_bcons (sim_for po rfl (sim_enum rfl B.b_enumerate (sim_cons (sim_ix (sim_var 1) sim_int) sim_nil)) (sim_btup rfl (sim_btcons (sim_bname 21 sc__law_drawn_part.nd) (sim_btcons (sim_bname 22 sc__law_drawn_part.nd) sim_btnil)) (bCons_len bName_has (bCons_len bName_has bNil_len))) (sim_bone (sim_mt mt_extend mo_extend 20 PySem.F.slot_list_extend PySem.F.type_list_extend (sim_cons (sim_lc (own := [("way", 23)]) rfl sc__law_drawn_part.nd gr (sim_it (sim_tup (sim_cons (sim_neg sim_int) (sim_cons sim_int sim_nil)))) (blkOk_by (N := N__law_drawn_part) (sc := defScope st__law_drawn_part) (by decide +kernel)) (by decide) (fun s H C cl fp => (sim_bname 23 sc__law_drawn_part.nd)) (fun s H C cl fp => (sim_tsone (SimW.t (sim_and (sim_tcmp (or_eq (room_hu hr)) (sim_ix (sim_var 22) sim_int) (sim_var 19)) (sim_and (sim_tcmp (or_nin (room_hu hr)) (sim_var 21) (sim_var 18)) (sim_and1 (sim_tcmp or_le (sim_callB cd_abs rfl B.b_abs (by decide +kernel) (sim_cons (sim_op or_add (sim_ix (sim_var 6) (sim_var 21)) (sim_var 23)) sim_nil)) sim_int))))))) (fun s H C cl fp => (sim_tup (sim_cons (sim_var 21) (sim_cons (sim_var 23) sim_nil))))) sim_nil)))) (sim_bone (sim_if (SimW.t (sim_and (sim_tcmp (or_ne (room_hu hr)) (sim_var 20) (sim_lst sim_nil)) (sim_and (sim_tcmp or_lt (sim_op or_add (sim_var 9) sim_int) (sim_var 4)) (sim_and1 (sim_tcmp (or_ne (room_hu hr)) (sim_callD d__law_take hT hr (by decide) tk rfl (sim_cons (sim_var 0) (sim_cons sim_int sim_nil))) sim_int))))) (sim_bcons (sim_asg (sim_thaw 20 gr (sim_callD d__law_some hT hr (by decide) tk rfl (sim_cons (sim_var 0) (sim_cons (sim_var 20) sim_nil)))) (sim_btup rfl (sim_btcons (sim_bname 21 sc__law_drawn_part.nd) (sim_btcons (sim_bname 23 sc__law_drawn_part.nd) sim_btnil)) (bCons_len bName_has (bCons_len bName_has bNil_len)))) (sim_bcons (sim_mt mt_append mo_append 8 PySem.F.slot_list_append PySem.F.type_list_append (sim_cons (sim_tup (sim_cons (sim_var 9) (sim_cons (sim_var 21) (sim_cons (sim_var 23) sim_nil)))) sim_nil)) (sim_bone (sim_setD 6 (sim_callD d__law_moved hT hr (by decide) tk rfl (sim_cons (sim_var 6) (sim_cons (sim_var 21) (sim_cons (sim_var 23) sim_nil)))) sc__law_drawn_part.nd)))) sim_bnil)))))))))) (sim_bcons (sim_set 7 (sim_callB (cd_sorted hu) rfl B.b_sorted (by decide +kernel) (sim_cons (sim_var 7) sim_nil)) sc__law_drawn_part.nd) (sim_bone (sim_ret (sim_tup (sim_cons (sim_tup (sim_cons (sim_var 4) (sim_cons (sim_callT cd_tuple rfl B.b_tuple (by decide +kernel) (sim_cons (sim_thaw 7 gr (sim_lc (own := [("note", 14), ("string", 12)]) rfl sc__law_drawn_part.nd gr (sim_itL (sim_var 7)) (blkOk_by (N := N__law_drawn_part) (sc := defScope st__law_drawn_part) (by decide +kernel)) (by decide) (fun s H C cl fp => (sim_btup rfl (sim_btcons (sim_bname 14 sc__law_drawn_part.nd) (sim_btcons (sim_bname 12 sc__law_drawn_part.nd) sim_btnil)) (bCons_len bName_has (bCons_len bName_has bNil_len)))) (fun s H C cl fp => sim_tsnil) (fun s H C cl fp => (sim_var 14)))) sim_nil)) sim_nil))) (sim_cons (sim_tup (sim_cons (sim_var 5) (sim_cons (sim_callT cd_tuple rfl B.b_tuple (by decide +kernel) (sim_cons (sim_thaw 7 gr (sim_lc (own := [("note", 14), ("string", 12)]) rfl sc__law_drawn_part.nd gr (sim_itL (sim_var 7)) (blkOk_by (N := N__law_drawn_part) (sc := defScope st__law_drawn_part) (by decide +kernel)) (by decide) (fun s H C cl fp => (sim_btup rfl (sim_btcons (sim_bname 14 sc__law_drawn_part.nd) (sim_btcons (sim_bname 12 sc__law_drawn_part.nd) sim_btnil)) (bCons_len bName_has (bCons_len bName_has bNil_len)))) (fun s H C cl fp => sim_tsnil) (fun s H C cl fp => (sim_var 12)))) sim_nil)) (sim_cons (sim_callT cd_tuple rfl B.b_tuple (by decide +kernel) (sim_cons (sim_callB (cd_sorted hu) rfl B.b_sorted (by decide +kernel) (sim_cons (sim_var 8) sim_nil)) sim_nil)) sim_nil)))) sim_nil)))))))))
abbrev st__law_raised : Stmt := top 47
def N__law_raised : List Str := ["act", "error"]
theorem sc__law_raised : FnScope N__law_raised ["act"] (defScope st__law_raised) := ⟨rfl, rfl, rfl, by decide +kernel, rfl, by decide +kernel, by decide +kernel⟩
abbrev st__law_checked : Stmt := top 48
def N__law_checked : List Str := ["score", "k", "tick", "pitch", "length"]
theorem sc__law_checked : FnScope N__law_checked ["score"] (defScope st__law_checked) := ⟨rfl, rfl, rfl, by decide +kernel, rfl, by decide +kernel, by decide +kernel⟩
def w__law_checked_1 : WS := (wSeq (wFor (wEnum (wCons (wOp opIx (wVar 0) (wC (.int 1))) wNil)) (bTup (bCons (bName 1) (bCons (bTup (bCons (bName 2) (bCons (bName 3) (bCons (bName 4) bNil)))) bNil))) (wIfS (wTor (wTnot (wTv (wChain opLe opLe (wNeg (wC (.int 1))) (wVar 3) (wC (.int 599))))) (wTv (wOp opGt (wOp opAdd (wVar 2) (wVar 4)) (wOp opIx (wVar 0) (wC (.int 0)))))) (wRet (wTup (wCons (wC (.str "score")) (wCons (wVar 1) (wCons (wIf (wTv (wChain opLe opLe (wNeg (wC (.int 1))) (wVar 3) (wC (.int 599)))) (wC (.str "length")) (wC (.str "pitch"))) wNil))))) wSkip)) (wRet (wTup (wCons (wC (.str "told")) (wCons (wVar 0) wNil)))))
def w__law_checked : WS := (wSeq (wIfS (wTor (wTv (wOp opGt (wOp opIx (wVar 0) (wC (.int 0))) (wC (.int 64)))) (wTv (wOp opGt (wCB bLen (wCons (wOp opIx (wVar 0) (wC (.int 1))) wNil)) (wC (.int 120))))) (wRet (wIf (wTv (wOp opGt (wOp opIx (wVar 0) (wC (.int 0))) (wC (.int 64)))) (wTup (wCons (wC (.str "large")) (wCons (wC (.str "ticks")) (wCons (wC (.int 64)) wNil)))) (wTup (wCons (wC (.str "large")) (wCons (wC (.str "notes")) (wCons (wC (.int 120)) wNil)))))) wSkip) w__law_checked_1)
def V__law_checked : Prop := ∀ (ys : List Val) (R : Val → Prop) (Ex : Xn → Prop), ys.length = 1 → ys.all argOk = true → Φ__law_checked ys R Ex → w__law_checked (endW R Ex) (start0 N__law_checked ys)
set_option maxHeartbeats 4000000 in
theorem s__law_checked (B : Bs mg) (S : Src K mg "_law_checked" "_law_checked" st__law_checked ["score"]) (v : V__law_checked) : Dfn P w K mg base TT kc "_law_checked" 1 1 Φ__law_checked := by
  refine dfn_of (k := 0) S sc__law_checked (fun f cdv A outer s H E Z ow hm hc hr hT gr => ?_) v
  have tk := takes_of (X := cxOf (L2.CX P w) P w K mg base N__law_checked "_law_checked" (defScope st__law_checked) f cdv A outer s H E) rfl rfl rfl rfl
  have po : PassesOwn (model P w) (cxOf (L2.CX P w) P w K mg base N__law_checked "_law_checked" (defScope st__law_checked) f cdv A outer s H E).A (cxOf (L2.CX P w) P w K mg base N__law_checked "_law_checked" (defScope st__law_checked) f cdv A outer s H E).env (cxOf (L2.CX P w) P w K mg base N__law_checked "_law_checked" (defScope st__law_checked) f cdv A outer s H E).xe := passes_of rfl
  have hu := room_hu hr
  skip
  exact (sim_bcons (sim_if (SimW.t (sim_or (sim_tcmp or_gt (sim_ix (sim_var 0) sim_int) sim_int) (sim_or1 (sim_tcmp or_gt (sim_callB cd_len rfl B.b_len (by decide +kernel) (sim_cons (sim_ix (sim_var 0) sim_int) sim_nil)) sim_int)))) (sim_bone (sim_ret (sim_ifx (sim_tcmp or_gt (sim_ix (sim_var 0) sim_int) sim_int) (sim_tup (sim_cons sim_str (sim_cons sim_str (sim_cons sim_int sim_nil)))) (sim_tup (sim_cons sim_str (sim_cons sim_str (sim_cons sim_int sim_nil))))))) sim_bnil) (sim_bcons (sim_for po rfl (sim_enum rfl B.b_enumerate (sim_cons (sim_ix (sim_var 0) sim_int) sim_nil)) (sim_btup rfl (sim_btcons (sim_bname 1 sc__law_checked.nd) (sim_btcons (sim_btup rfl (sim_btcons (sim_bname 2 sc__law_checked.nd) (sim_btcons (sim_bname 3 sc__law_checked.nd) (sim_btcons (sim_bname 4 sc__law_checked.nd) sim_btnil))) (bCons_len bName_has (bCons_len bName_has (bCons_len bName_has bNil_len)))) sim_btnil)) (bCons_len bName_has (bCons_len (bTup_has (bCons_has bName_has (bCons_has bName_has (bCons_has bName_has bNil_has)))) bNil_len))) (sim_bone (sim_if (SimW.t (sim_or (sim_tnot (sim_tchain or_le or_le (sim_neg sim_int) (sim_var 3) sim_int)) (sim_or1 (sim_tcmp or_gt (sim_op or_add (sim_var 2) (sim_var 4)) (sim_ix (sim_var 0) sim_int))))) (sim_bone (sim_ret (sim_tup (sim_cons sim_str (sim_cons (sim_var 1) (sim_cons (sim_ifx (sim_tchain or_le or_le (sim_neg sim_int) (sim_var 3) sim_int) sim_str sim_str) sim_nil)))))) sim_bnil))) (sim_bone (sim_ret (sim_tup (sim_cons sim_str (sim_cons (sim_var 0) sim_nil)))))))
abbrev st_law : Stmt := top 49
def N_law : List Str := ("script" :: "bag" :: "lap" :: "harp" :: "score" :: "part" :: "other" :: "its" :: "ticks" :: "notes" :: "rows" :: "k" :: "note" :: "tick" :: "begins" :: "pitches" :: "row" :: "most" :: "loud" :: "found" :: "span" :: "steps" :: "due" :: "pitch" :: "length" :: "later" :: "begin" :: "both" :: "heard" :: "some" :: "is_note_v" :: "gone" :: "great" :: [])
theorem sc_law : FnScope N_law ["script"] (defScope st_law) := ⟨rfl, rfl, rfl, by decide +kernel, rfl, by decide +kernel, by decide +kernel⟩
def psc_law_193_15 : Scope := { kind := PySem.ScopeKind.function, names := [ (PySem.Str.ofString ".0", PySem.NameKind.local), (PySem.Str.ofString "tick", PySem.NameKind.cell), (PySem.Str.ofString "tuple", PySem.NameKind.globalImplicit), (PySem.Str.ofString "enumerate", PySem.NameKind.globalImplicit), (PySem.Str.ofString "notes", PySem.NameKind.free)], isGenerator := false, isCoroutine := false, more := [] : PySem.Scope }
def psc_law_193_22 : Scope := { kind := PySem.ScopeKind.function, names := [ (PySem.Str.ofString ".0", PySem.NameKind.local), (PySem.Str.ofString "k", PySem.NameKind.local), (PySem.Str.ofString "note", PySem.NameKind.local), (PySem.Str.ofString "tick", PySem.NameKind.free)], isGenerator := false, isCoroutine := false, more := [] : PySem.Scope }
def psc_law_194_17 : Scope := { kind := PySem.ScopeKind.function, names := [ (PySem.Str.ofString ".0", PySem.NameKind.local), (PySem.Str.ofString "tick", PySem.NameKind.cell), (PySem.Str.ofString "tuple", PySem.NameKind.globalImplicit), (PySem.Str.ofString "enumerate", PySem.NameKind.globalImplicit), (PySem.Str.ofString "notes", PySem.NameKind.free)], isGenerator := false, isCoroutine := false, more := [] : PySem.Scope }
def psc_law_194_24 : Scope := { kind := PySem.ScopeKind.function, names := [ (PySem.Str.ofString ".0", PySem.NameKind.local), (PySem.Str.ofString "k", PySem.NameKind.local), (PySem.Str.ofString "note", PySem.NameKind.local), (PySem.Str.ofString "tick", PySem.NameKind.free)], isGenerator := false, isCoroutine := false, more := [] : PySem.Scope }
def psc_law_195_18 : Scope := { kind := PySem.ScopeKind.function, names := [ (PySem.Str.ofString ".0", PySem.NameKind.local), (PySem.Str.ofString "row", PySem.NameKind.local), (PySem.Str.ofString "tuple", PySem.NameKind.globalImplicit), (PySem.Str.ofString "sorted", PySem.NameKind.globalImplicit), (PySem.Str.ofString "set", PySem.NameKind.globalImplicit), (PySem.Str.ofString "notes", PySem.NameKind.free)], isGenerator := false, isCoroutine := false, more := [] : PySem.Scope }
def psc_law_195_36 : Scope := { kind := PySem.ScopeKind.function, names := [ (PySem.Str.ofString ".0", PySem.NameKind.local), (PySem.Str.ofString "k", PySem.NameKind.local), (PySem.Str.ofString "notes", PySem.NameKind.free)], isGenerator := false, isCoroutine := false, more := [] : PySem.Scope }
def psc_law_196_19 : Scope := { kind := PySem.ScopeKind.function, names := [ (PySem.Str.ofString ".0", PySem.NameKind.local), (PySem.Str.ofString "row", PySem.NameKind.local), (PySem.Str.ofString "len", PySem.NameKind.globalImplicit)], isGenerator := false, isCoroutine := false, more := [] : PySem.Scope }
def psc_law_197_22 : Scope := { kind := PySem.ScopeKind.function, names := [ (PySem.Str.ofString ".0", PySem.NameKind.local), (PySem.Str.ofString "tick", PySem.NameKind.local), (PySem.Str.ofString "len", PySem.NameKind.globalImplicit), (PySem.Str.ofString "most", PySem.NameKind.free), (PySem.Str.ofString "rows", PySem.NameKind.free)], isGenerator := false, isCoroutine := false, more := [] : PySem.Scope }
def psc_law_198_118 : Scope := { kind := PySem.ScopeKind.function, names := [ (PySem.Str.ofString ".0", PySem.NameKind.local), (PySem.Str.ofString "tick", PySem.NameKind.local), (PySem.Str.ofString "pitches_at", PySem.NameKind.globalImplicit), (PySem.Str.ofString "score", PySem.NameKind.free)], isGenerator := false, isCoroutine := false, more := [] : PySem.Scope }
def psc_law_198_67 : Scope := { kind := PySem.ScopeKind.function, names := [ (PySem.Str.ofString ".0", PySem.NameKind.local), (PySem.Str.ofString "tick", PySem.NameKind.local), (PySem.Str.ofString "begins_at", PySem.NameKind.globalImplicit), (PySem.Str.ofString "score", PySem.NameKind.free)], isGenerator := false, isCoroutine := false, more := [] : PySem.Scope }
def psc_law_198_17 : Scope := { kind := PySem.ScopeKind.function, names := [ (PySem.Str.ofString ".0", PySem.NameKind.local), (PySem.Str.ofString "tick", PySem.NameKind.local), (PySem.Str.ofString "rings_at", PySem.NameKind.globalImplicit), (PySem.Str.ofString "score", PySem.NameKind.free)], isGenerator := false, isCoroutine := false, more := [] : PySem.Scope }
def psc_law_201_54 : Scope := { kind := PySem.ScopeKind.function, names := [(PySem.Str.ofString ".0", PySem.NameKind.local), (PySem.Str.ofString "note", PySem.NameKind.local)], isGenerator := false, isCoroutine := false, more := [] : PySem.Scope }
def psc_law_201_20 : Scope := { kind := PySem.ScopeKind.function, names := [(PySem.Str.ofString ".0", PySem.NameKind.local), (PySem.Str.ofString "note", PySem.NameKind.local)], isGenerator := false, isCoroutine := false, more := [] : PySem.Scope }
def psc_law_202_88 : Scope := { kind := PySem.ScopeKind.function, names := [(PySem.Str.ofString ".0", PySem.NameKind.local), (PySem.Str.ofString "note", PySem.NameKind.local)], isGenerator := false, isCoroutine := false, more := [] : PySem.Scope }
def psc_law_202_43 : Scope := { kind := PySem.ScopeKind.function, names := [ (PySem.Str.ofString ".0", PySem.NameKind.local), (PySem.Str.ofString "note", PySem.NameKind.local), (PySem.Str.ofString "last_tick", PySem.NameKind.globalImplicit)], isGenerator := false, isCoroutine := false, more := [] : PySem.Scope }
def psc_law_205_41 : Scope := { kind := PySem.ScopeKind.function, names := [ (PySem.Str.ofString ".0", PySem.NameKind.local), (PySem.Str.ofString "tick", PySem.NameKind.local), (PySem.Str.ofString "pitch", PySem.NameKind.local), (PySem.Str.ofString "length", PySem.NameKind.local), (PySem.Str.ofString "steps", PySem.NameKind.free)], isGenerator := false, isCoroutine := false, more := [] : PySem.Scope }
def psc_law_207_37 : Scope := { kind := PySem.ScopeKind.function, names := [ (PySem.Str.ofString ".0", PySem.NameKind.local), (PySem.Str.ofString "begin", PySem.NameKind.local), (PySem.Str.ofString "pitch", PySem.NameKind.local), (PySem.Str.ofString "length", PySem.NameKind.local), (PySem.Str.ofString "tick", PySem.NameKind.free)], isGenerator := false, isCoroutine := false, more := [] : PySem.Scope }
def psc_law_208_61 : Scope := { kind := PySem.ScopeKind.function, names := [ (PySem.Str.ofString ".0", PySem.NameKind.local), (PySem.Str.ofString "begin", PySem.NameKind.local), (PySem.Str.ofString "pitch", PySem.NameKind.local), (PySem.Str.ofString "length", PySem.NameKind.local), (PySem.Str.ofString "ticks", PySem.NameKind.free)], isGenerator := false, isCoroutine := false, more := [] : PySem.Scope }
def w_law_1 : WS := (wSeq (wMt 28 mAppend (wCons (wRaised "told" [("BadScore", "score", ["number", "fault"]), ("Nothing", "nothing", []), ("TooLarge", "large", ["what", "limit"])] (wCall 2 Φ_raised (wCons (wVar 4) (wCons (wCall 2 Φ__law_some (wCons (wVar 1) (wCons (wLst (wCons (wC .none) (wCons (wC (.bool true)) (wCons (wC (.str "1")) wNil)))) wNil))) wNil)))) wNil)) (wIfS (wTnot (wTv (wThaw 28 (wCall 2 Φ__law_alike (wCons (wVar 28) (wCons (wOp opAdd (wLst (wCons (wVar 22) (wCons (wVar 31) wNil))) (wOp opMul (wLst (wCons (wTup (wCons (wC (.str "nothing")) wNil)) wNil)) (wC (.int 3)))) wNil)))))) (wRet (wC (.bool false))) wSkip))
def w_law_2 : WS := (wSeq (wMt 28 mAppend (wCons (wRaised "told" [("BadScore", "score", ["number", "fault"]), ("Nothing", "nothing", []), ("TooLarge", "large", ["what", "limit"])] (wCall 2 Φ_from_tick (wCons (wVar 4) (wCons (wCall 2 Φ__law_some (wCons (wVar 1) (wCons (wLst (wCons (wNeg (wC (.int 1))) (wCons (wVar 8) (wCons (wC .none) (wCons (wIf (wTv (wOp opLt (wVar 8) (wC (.int 2)))) (wC (.bool true)) (wOp opAdd (wVar 8) (wC (.int 3)))) wNil))))) wNil))) wNil)))) wNil)) w_law_1)
def w_law_3 : WS := (wSeq (wMt 28 mAppend (wCons (wRaised "told" [("BadScore", "score", ["number", "fault"]), ("Nothing", "nothing", []), ("TooLarge", "large", ["what", "limit"])] (wCall 2 Φ_without_note (wCons (wVar 4) (wCons (wCall 2 Φ__law_some (wCons (wVar 1) (wCons (wLst (wCons (wNeg (wC (.int 1))) (wCons (wC .none) (wCons (wIf (wTv (wOp opLt (wCB bLen (wCons (wVar 9) wNil)) (wC (.int 2)))) (wC (.bool true)) (wNeg (wC (.int 1)))) wNil)))) wNil))) wNil)))) wNil)) w_law_2)
def w_law_4 : WS := (wSeq (wMt 28 mAppend (wCons (wRaised "told" [("BadScore", "score", ["number", "fault"]), ("Nothing", "nothing", []), ("TooLarge", "large", ["what", "limit"])] (wCall 2 Φ_without_note (wCons (wVar 4) (wCons (wVar 11) wNil)))) wNil)) w_law_3)
def w_law_5 : WS := (wSeq (wSet 28 (wLst (wCons (wRaised "told" [("BadScore", "score", ["number", "fault"]), ("Nothing", "nothing", []), ("TooLarge", "large", ["what", "limit"])] (wCall 2 Φ_with_note (wCons (wVar 4) (wCons (wVar 12) wNil)))) wNil))) w_law_4)
def w_law_6 : WS := (wSeq (wSetD 31 (wIf (wTv (wOp opLt (wVar 11) (wCB bLen (wCons (wVar 9) wNil)))) (wTup (wCons (wC (.str "told")) (wCons (wTup (wCons (wVar 8) (wCons (wOp opAdd (wSl (wVar 9) wNo (wSo (wVar 11))) (wSl (wVar 9) (wSo (wOp opAdd (wVar 11) (wC (.int 1)))) wNo)) wNil))) wNil))) (wTup (wCons (wC (.str "nothing")) wNil)))) w_law_5)
def w_law_7 : WS := (wSeq (wSetD 11 (wCall 2 Φ__law_take (wCons (wVar 1) (wCons (wOp opAdd (wCB bLen (wCons (wVar 9) wNil)) (wC (.int 1))) wNil)))) w_law_6)
def w_law_8 : WS := (wSeq (wSetD 22 (wIf (wTv (wVar 30)) (wCall 1 Φ__law_checked (wCons (wTup (wCons (wVar 8) (wCons (wCB bTuple (wCons (wCB bSorted (wCons (wOp opAdd (wVar 9) (wTup (wCons (wVar 12) wNil))) wNil)) wNil)) wNil))) wNil)) (wTup (wCons (wC (.str "nothing")) wNil)))) w_law_7)
def w_law_9 : WS := (wSeq (wSetD 30 (wAnd (wIsi isTupleD (wVar 12)) (wAnd (wOp opEq (wCB bLen (wCons (wVar 12) wNil)) (wC (.int 3))) (wAnd (wOp (opIsB true) (wOp opIx (wVar 12) (wC (.int 0))) (wC (.bool true))) (wAnd (wOp opGt (wOp opIx (wVar 12) (wC (.int 2))) (wC (.int 0))) (wOp opNin (wVar 12) (wVar 9))))))) w_law_8)
def w_law_10 : WS := (wSeq (wSetD 12 (wCall 2 Φ__law_some (wCons (wVar 1) (wCons (wVar 29) wNil)))) w_law_9)
def w_law_11 : WS := (wSeq (wSetD 29 (wOp opAdd (wOp opAdd (wLst (wCons (wTup (wCons (wVar 13) (wCons (wOp opSub (wCall 2 Φ__law_take (wCons (wVar 1) (wCons (wC (.int 30)) wNil))) (wC (.int 2))) (wCons (wOp opAdd (wC (.int 1)) (wCall 2 Φ__law_take (wCons (wVar 1) (wCons (wC (.int 3)) wNil)))) wNil)))) (wCons (wTup (wCons (wC (.int 0)) (wCons (wC (.int 600)) (wCons (wC (.int 1)) wNil)))) (wCons (wTup (wCons (wVar 8) (wCons (wC (.int 5)) (wCons (wC (.int 1)) wNil)))) wNil)))) (wCB bList (wCons (wSl (wVar 9) wNo (wSo (wC (.int 1)))) wNil))) (wLst (wCons (wC .none) (wCons (wTup (wCons (wC (.int 0)) (wCons (wC (.int 5)) wNil))) (wCons (wTup (wCons (wC (.int 0)) (wCons (wC (.int 5)) (wCons (wC (.int 0)) wNil)))) (wCons (wTup (wCons (wC (.bool true)) (wCons (wC (.int 5)) (wCons (wC (.int 1)) wNil)))) (wCons (wLst (wCons (wC (.int 0)) (wCons (wC (.int 5)) (wCons (wC (.int 1)) wNil)))) wNil)))))))) w_law_10)
def w_law_12 : WS := (wSeq (wIfS (wTnot (wTv (wThaw 28 (wCall 2 Φ__law_alike (wCons (wVar 28) (wCons (wLst (wCons (wVar 22) (wCons (wTup (wCons (wC (.str "told")) (wCons (wVar 25) wNil))) (wCons (wVar 27) wNil)))) wNil)))))) (wRet (wC (.bool false))) wSkip) w_law_11)
def w_law_13 : WS := (wSeq (wMt 28 mAppend (wCons (wRaised "told" [("BadScore", "score", ["number", "fault"]), ("Nothing", "nothing", []), ("TooLarge", "large", ["what", "limit"])] (wCall 2 Φ_joined (wCons (wVar 4) (wCons (wVar 6) wNil)))) wNil)) w_law_12)
def w_law_14 : WS := (wSeq (wMt 28 mAppend (wCons (wRaised "told" [("BadScore", "score", ["number", "fault"]), ("Nothing", "nothing", []), ("TooLarge", "large", ["what", "limit"])] (wCall 2 Φ_from_tick (wCons (wVar 4) (wCons (wVar 13) wNil)))) wNil)) w_law_13)
def w_law_15 : WS := (wSeq (wSet 28 (wLst (wCons (wRaised "told" [("BadScore", "score", ["number", "fault"]), ("Nothing", "nothing", []), ("TooLarge", "large", ["what", "limit"])] (wCall 2 Φ_raised (wCons (wVar 4) (wCons (wVar 21) wNil)))) wNil))) w_law_14)
def w_law_16 : WS := (wSeq (wSetD 27 (wCall 1 Φ__law_checked (wCons (wTup (wCons (wOp opAdd (wVar 8) (wOp opIx (wVar 6) (wC (.int 0)))) (wCons (wOp opAdd (wVar 9) (wCB bTuple (wCons (wLc (wIt (wOp opIx (wVar 6) (wC (.int 1)))) (bTup (bCons (bName 26) (bCons (bName 23) (bCons (bName 24) bNil)))) wYes (wTup (wCons (wOp opAdd (wVar 26) (wVar 8)) (wCons (wVar 23) (wCons (wVar 24) wNil)))) [26, 23, 24]) wNil))) wNil))) wNil))) w_law_15)
def w_law_17 : WS := (wSeq (wSetD 25 (wTup (wCons (wOp opSub (wVar 8) (wVar 13)) (wCons (wCB bTuple (wCons (wLc (wIt (wVar 9)) (bTup (bCons (bName 26) (bCons (bName 23) (bCons (bName 24) bNil)))) (wTv (wOp opGe (wVar 26) (wVar 13))) (wTup (wCons (wOp opSub (wVar 26) (wVar 13)) (wCons (wVar 23) (wCons (wVar 24) wNil)))) [26, 23, 24]) wNil)) wNil)))) w_law_16)
def w_law_18 : WS := (wSeq (wSetD 13 (wCall 2 Φ__law_take (wCons (wVar 1) (wCons (wVar 8) wNil)))) w_law_17)
def w_law_19 : WS := (wSeq (wSetD 22 (wCall 1 Φ__law_checked (wCons (wTup (wCons (wVar 8) (wCons (wCB bTuple (wCons (wLc (wIt (wVar 9)) (bTup (bCons (bName 13) (bCons (bName 23) (bCons (bName 24) bNil)))) wYes (wTup (wCons (wVar 13) (wCons (wOp opAdd (wVar 23) (wVar 21)) (wCons (wVar 24) wNil)))) [13, 23, 24]) wNil)) wNil))) wNil))) w_law_18)
def w_law_20 : WS := (wSeq (wSetD 21 (wCall 2 Φ__law_some (wCons (wVar 1) (wCons (wLst (wCons (wC (.int 0)) (wCons (wC (.int 1)) (wCons (wNeg (wC (.int 1))) (wCons (wC (.int 12)) (wCons (wNeg (wC (.int 12))) (wCons (wC (.int 600)) (wCons (wOp opSub (wCall 2 Φ__law_take (wCons (wVar 1) (wCons (wC (.int 20)) wNil))) (wC (.int 10))) wNil)))))))) wNil)))) w_law_19)
def w_law_21 : WS := (wSeq (wIfS (wTnot (wTv (wCall 2 Φ__law_alike (wCons (wLst (wCons (wCall 1 Φ_span_of (wCons (wVar 4) wNil)) (wCons (wLc (wIt (wVar 9)) (bName 12) wYes (wCall 1 Φ_last_tick (wCons (wVar 12) wNil)) [12]) wNil))) (wCons (wLst (wCons (wVar 20) (wCons (wLc (wIt (wVar 9)) (bName 12) wYes (wOp opSub (wOp opAdd (wOp opIx (wVar 12) (wC (.int 0))) (wOp opIx (wVar 12) (wC (.int 2)))) (wC (.int 1))) [12]) wNil))) wNil))))) (wRet (wC (.bool false))) wSkip) w_law_20)
def w_law_22 : WS := (wSeq (wSetD 20 (wIf (wTv (wOp opNe (wVar 9) (wTup wNil))) (wTup (wCons (wCB bMinR (wCons (wLc (wIt (wVar 9)) (bName 12) wYes (wOp opIx (wVar 12) (wC (.int 1))) [12]) wNil)) (wCons (wCB bMaxR (wCons (wLc (wIt (wVar 9)) (bName 12) wYes (wOp opIx (wVar 12) (wC (.int 1))) [12]) wNil)) wNil))) (wC .none))) w_law_21)
def w_law_23 : WS := (wSeq (wIfS (wTor (wTnot (wTv (wCall 2 Φ__law_alike (wCons (wVar 19) (wCons (wLst (wCons (wVar 10) (wCons (wVar 14) (wCons (wVar 15) wNil)))) wNil))))) (wTnot (wTv (wCall 2 Φ__law_alike (wCons (wCall 1 Φ_loudest (wCons (wVar 4) wNil)) (wCons (wVar 18) wNil)))))) (wRet (wC (.bool false))) wSkip) w_law_22)
def w_law_24 : WS := (wSeq (wSetD 19 (wLst (wCons (wLc (wRng1 (wCons (wVar 8) wNil)) (bName 13) wYes (wCall 2 Φ_rings_at (wCons (wVar 4) (wCons (wVar 13) wNil))) [13]) (wCons (wLc (wRng1 (wCons (wVar 8) wNil)) (bName 13) wYes (wCall 2 Φ_begins_at (wCons (wVar 4) (wCons (wVar 13) wNil))) [13]) (wCons (wLc (wRng1 (wCons (wVar 8) wNil)) (bName 13) wYes (wCall 2 Φ_pitches_at (wCons (wVar 4) (wCons (wVar 13) wNil))) [13]) wNil))))) w_law_23)
def w_law_25 : WS := (wSeq (wSetD 18 (wTup (wCons (wVar 17) (wCons (wOp opIx (wLc (wRng1 (wCons (wVar 8) wNil)) (bName 13) (wTv (wOp opEq (wCB bLen (wCons (wOp opIx (wVar 10) (wVar 13)) wNil)) (wVar 17))) (wVar 13) [13]) (wC (.int 0))) wNil)))) w_law_24)
def w_law_26 : WS := (wSeq (wSetD 17 (wCB bMaxR (wCons (wLc (wItL (wVar 10)) (bName 16) wYes (wCB bLen (wCons (wVar 16) wNil)) [16]) wNil))) w_law_25)
def w_law_27 : WS := (wSeq (wSetD 15 (wLc (wItL (wVar 10)) (bName 16) wYes (wCB bTuple (wCons (wSortedSet (wLc (wIt (wVar 16)) (bName 11) wYes (wOp opIx (wOp opIx (wVar 9) (wVar 11)) (wC (.int 1))) [11])) wNil)) [16])) w_law_26)
def w_law_28 : WS := (wSeq (wSetD 14 (wLc (wRng1 (wCons (wVar 8) wNil)) (bName 13) wYes (wCB bTuple (wCons (wLc (wEnum (wCons (wVar 9) wNil)) (bTup (bCons (bName 11) (bCons (bName 12) bNil))) (wTv (wOp opEq (wOp opIx (wVar 12) (wC (.int 0))) (wVar 13))) (wVar 11) [11, 12]) wNil)) [13])) w_law_27)
def w_law_29 : WS := (wSeq (wSetD 10 (wLc (wRng1 (wCons (wVar 8) wNil)) (bName 13) wYes (wCB bTuple (wCons (wLc (wEnum (wCons (wVar 9) wNil)) (bTup (bCons (bName 11) (bCons (bName 12) bNil))) (wTv (wChain opLe opLt (wOp opIx (wVar 12) (wC (.int 0))) (wVar 13) (wOp opAdd (wOp opIx (wVar 12) (wC (.int 0))) (wOp opIx (wVar 12) (wC (.int 2)))))) (wVar 11) [11, 12]) wNil)) [13])) w_law_28)
def w_law_30 : WS := (wSeq (wAsg (bTup (bCons (bName 8) (bCons (bName 9) bNil))) (wVar 4)) w_law_29)
def w_law_31 : WS := (wSeq (wAsg (bTup (bCons (bName 6) (bCons (bName 7) bNil))) (wCall 4 Φ__law_drawn_part (wCons (wVar 1) (wCons (wVar 3) (wCons (wC (.int 5)) (wCons (wC (.int 2)) wNil)))))) w_law_30)
def w_law_32 : WS := (wSeq (wAsg (bTup (bCons (bName 4) (bCons (bName 5) bNil))) (wCall 4 Φ__law_drawn_part (wCons (wVar 1) (wCons (wVar 3) (wCons (wC (.int 7)) (wCons (wC (.int 3)) wNil)))))) w_law_31)
def w_law_33 : WS := (wSeq (wIfS (wTv (wOp opNe (wRaised "told" [("BadScore", "score", ["number", "fault"]), ("Nothing", "nothing", []), ("TooLarge", "large", ["what", "limit"])] (wCall 2 Φ_joined (wCons (wVar 32) (wCons (wTup (wCons (wC (.int 32)) (wCons (wTup wNil) wNil))) wNil)))) (wTup (wCons (wC (.str "large")) (wCons (wC (.str "ticks")) (wCons (wC (.int 64)) wNil)))))) (wRet (wC (.bool false))) wSkip) (wRet (wOp opEq (wRaised "told" [("BadScore", "score", ["number", "fault"]), ("Nothing", "nothing", []), ("TooLarge", "large", ["what", "limit"])] (wCall 2 Φ_joined (wCons (wVar 32) (wCons (wTup (wCons (wC (.int 31)) (wCons (wTup (wCons (wTup (wCons (wC (.int 0)) (wCons (wC (.int 5)) (wCons (wC (.int 31)) wNil)))) wNil)) wNil))) wNil)))) (wTup (wCons (wC (.str "told")) (wCons (wTup (wCons (wC (.int 64)) (wCons (wTup (wCons (wTup (wCons (wC (.int 0)) (wCons (wC (.int 5)) (wCons (wC (.int 33)) wNil)))) (wCons (wTup (wCons (wC (.int 33)) (wCons (wC (.int 5)) (wCons (wC (.int 31)) wNil)))) wNil))) wNil))) wNil))))))
def w_law_34 : WS := (wSeq (wSetD 32 (wTup (wCons (wC (.int 33)) (wCons (wTup (wCons (wTup (wCons (wC (.int 0)) (wCons (wC (.int 5)) (wCons (wC (.int 33)) wNil)))) wNil)) wNil)))) w_law_33)
def w_law : WS := (wSeq (wFor (wRng1 (wCons (wC (.int 6)) wNil)) (bName 2) (wSeq (wSetD 3 (wCall 3 Φ__law_harp (wCons (wVar 1) (wCons (wC (.int 3)) (wCons (wC (.int 9)) wNil))))) w_law_32)) w_law_34)
set_option maxHeartbeats 0 in
theorem s_law (B : Bs mg) (d__law_harp : Dfn P w K mg base TT kc "_law_harp" 3 3 Φ__law_harp) (d__law_drawn_part : Dfn P w K mg base TT kc "_law_drawn_part" 4 4 Φ__law_drawn_part) (d_pitches_at : Dfn P w K mg base TT kc "pitches_at" 3 2 Φ_pitches_at) (d_begins_at : Dfn P w K mg base TT kc "begins_at" 1 2 Φ_begins_at) (d_rings_at : Dfn P w K mg base TT kc "rings_at" 2 2 Φ_rings_at) (d__law_alike : Gfn P w K mg base TT kc "_law_alike" 1 2 Φ__law_alike) (d_loudest : Dfn P w K mg base TT kc "loudest" 3 1 Φ_loudest) (d_last_tick : Dfn P w K mg base TT kc "last_tick" 1 1 Φ_last_tick) (d_span_of : Dfn P w K mg base TT kc "span_of" 1 1 Φ_span_of) (d__law_some : Dfn P w K mg base TT kc "_law_some" 2 2 Φ__law_some) (d__law_take : Dfn P w K mg base TT kc "_law_take" 1 2 Φ__law_take) (d__law_checked : Dfn P w K mg base TT kc "_law_checked" 1 1 Φ__law_checked) (d_raised : Dfn P w K mg base TT kc "raised" 16 2 Φ_raised) (d_from_tick : Dfn P w K mg base TT kc "from_tick" 3 2 Φ_from_tick) (d_joined : Dfn P w K mg base TT kc "joined" 16 2 Φ_joined) (d_with_note : Dfn P w K mg base TT kc "with_note" 16 2 Φ_with_note) (d_without_note : Dfn P w K mg base TT kc "without_note" 3 2 Φ_without_note) {c PT : Addr} (TB : LamX.TabB base mg c PT) (hcd : ∀ f, mg "law" = some (.ref f) → CodeOf K f (.ref c)) (hmT : (PT, (("law" : Str) ++ ".<locals>." ++ "<lambda>" : Str)) ∈ TT) (hmu : ∀ p ∈ TT, p.1 = PT → p.2 = (("law" : Str) ++ ".<locals>." ++ "<lambda>" : Str)) {g__law_raised : Addr} {fd__law_raised : FuncData} (F__law_raised : Fun K "_law_raised" "_law_raised" st__law_raised g__law_raised fd__law_raised) (m__law_raised : mg "_law_raised" = some (.ref g__law_raised)) (b__law_raised : L2.Binds K fd__law_raised ["act"] []) {C_BadScore : Addr} (c_BadScore : mg "BadScore" = some (.ref C_BadScore)) {C_Nothing : Addr} (c_Nothing : mg "Nothing" = some (.ref C_Nothing)) {C_TooLarge : Addr} (c_TooLarge : mg "TooLarge" = some (.ref C_TooLarge)) (xf_BadScore : XfC K C_BadScore) (nf_BadScore_number : PySem.W.findIn K (.ref C_BadScore) "number" = some none) (nf_BadScore_fault : PySem.W.findIn K (.ref C_BadScore) "fault" = some none) (xf_TooLarge : XfC K C_TooLarge) (nf_TooLarge_what : PySem.W.findIn K (.ref C_TooLarge) "what" = some none) (nf_TooLarge_limit : PySem.W.findIn K (.ref C_TooLarge) "limit" = some none) (ap__law_raised : Apart K mg ["BadScore", "Nothing", "TooLarge"] [("BadScore", "score", ["number", "fault"]), ("Nothing", "nothing", []), ("TooLarge", "large", ["what", "limit"])] [(C_BadScore, "score", ["number", "fault"]), (C_Nothing, "nothing", []), (C_TooLarge, "large", ["what", "limit"])]) {f : Addr} {cdv : Value} {A : Around} {outer : List Env} {s : Shared} {H : Hp} {E : XK} {Z : Ext} {ow : List Addr} {Hb : Hp} (hm : mg "law" = some (.ref f)) (hc : CodeOf K f cdv) (hgd : (cxOf (L2.CX P w) P w K mg base N_law "law" (defScope st_law) f cdv A outer s H E).A.guards = some []) (hr : Room 18 (cxOf (L2.CX P w) P w K mg base N_law "law" (defScope st_law) f cdv A outer s H E).A) (hT : Z.tabs = TT) (gr : Gr Z ow Hb) :
    SimSs (cxOf (L2.CX P w) P w K mg base N_law "law" (defScope st_law) f cdv A outer s H E) (fun cls d _ H' => E cls d H') Z (Clb P w K mg base kc Z) ow Hb (defBody st_law).tail w_law := by
  have tk := takes_of (X := cxOf (L2.CX P w) P w K mg base N_law "law" (defScope st_law) f cdv A outer s H E) rfl rfl rfl rfl
  have po : PassesOwn (model P w) (cxOf (L2.CX P w) P w K mg base N_law "law" (defScope st_law) f cdv A outer s H E).A (cxOf (L2.CX P w) P w K mg base N_law "law" (defScope st_law) f cdv A outer s H E).env (cxOf (L2.CX P w) P w K mg base N_law "law" (defScope st_law) f cdv A outer s H E).xe := passes_of rfl
  have hu := room_hu hr
  have hcode : cdv = .ref c := hc.one (hcd f hm)
  exact (sim_bcons (sim_for po rfl (sim_rng1 rfl B.b_range (sim_cons sim_int sim_nil)) (sim_bname 2 sc_law.nd) (sim_bcons (sim_setD 3 (sim_callD d__law_harp hT hr (by decide) tk rfl (sim_cons (sim_var 1) (sim_cons sim_int (sim_cons sim_int sim_nil)))) sc_law.nd) (sim_bcons (sim_asg (sim_callD d__law_drawn_part hT hr (by decide) tk rfl (sim_cons (sim_var 1) (sim_cons (sim_var 3) (sim_cons sim_int (sim_cons sim_int sim_nil))))) (sim_btup rfl (sim_btcons (sim_bname 4 sc_law.nd) (sim_btcons (sim_bname 5 sc_law.nd) sim_btnil)) (bCons_len bName_has (bCons_len bName_has bNil_len)))) (sim_bcons (sim_asg (sim_callD d__law_drawn_part hT hr (by decide) tk rfl (sim_cons (sim_var 1) (sim_cons (sim_var 3) (sim_cons sim_int (sim_cons sim_int sim_nil))))) (sim_btup rfl (sim_btcons (sim_bname 6 sc_law.nd) (sim_btcons (sim_bname 7 sc_law.nd) sim_btnil)) (bCons_len bName_has (bCons_len bName_has bNil_len)))) (sim_bcons (sim_asg (sim_var 4) (sim_btup rfl (sim_btcons (sim_bname 8 sc_law.nd) (sim_btcons (sim_bname 9 sc_law.nd) sim_btnil)) (bCons_len bName_has (bCons_len bName_has bNil_len)))) (sim_bcons (sim_setD 10 (sim_lc (own := [("tick", 13)]) rfl sc_law.nd gr (sim_rng1 rfl B.b_range (sim_cons (sim_var 8) sim_nil)) (blkOk_by (N := N_law) (sc := defScope st_law) (by decide +kernel)) (by decide) (fun s H C cl fp => (sim_bname 13 sc_law.nd)) (fun s H C cl fp => sim_tsnil) (fun s H C cl fp => (sim_callT cd_tuple rfl B.b_tuple (by decide +kernel) (sim_cons (sim_lc (own := [("k", 11), ("note", 12)]) rfl sc_law.nd gr (sim_enum rfl B.b_enumerate (sim_cons (sim_var 9) sim_nil)) (blkOk_by (N := N_law) (sc := (relS psc_law_193_15 (defScope st_law))) (by decide +kernel)) (by decide) (fun s H C cl fp => (sim_btup rfl (sim_btcons (sim_bname 11 sc_law.nd) (sim_btcons (sim_bname 12 sc_law.nd) sim_btnil)) (bCons_len bName_has (bCons_len bName_has bNil_len)))) (fun s H C cl fp => (sim_tsone (sim_tchain or_le or_lt (sim_ix (sim_var 12) sim_int) (sim_var 13) (sim_op or_add (sim_ix (sim_var 12) sim_int) (sim_ix (sim_var 12) sim_int))))) (fun s H C cl fp => (sim_var 11))) sim_nil)))) sc_law.nd) (sim_bcons (sim_setLcD 14 (own := [("tick", 13)]) rfl sc_law.nd gr (sim_rng1 rfl B.b_range (sim_cons (sim_var 8) sim_nil)) (blkOk_by (N := N_law) (sc := defScope st_law) (by decide +kernel)) (by decide) (fun s H C cl fp => (sim_bname 13 sc_law.nd)) (fun s H C cl fp => sim_tsnil) (fun s H C cl fp => (sim_callT cd_tuple rfl B.b_tuple (by decide +kernel) (sim_cons (sim_lc (own := [("k", 11), ("note", 12)]) rfl sc_law.nd gr (sim_enum rfl B.b_enumerate (sim_cons (sim_var 9) sim_nil)) (blkOk_by (N := N_law) (sc := (relS psc_law_194_17 (defScope st_law))) (by decide +kernel)) (by decide) (fun s H C cl fp => (sim_btup rfl (sim_btcons (sim_bname 11 sc_law.nd) (sim_btcons (sim_bname 12 sc_law.nd) sim_btnil)) (bCons_len bName_has (bCons_len bName_has bNil_len)))) (fun s H C cl fp => (sim_tsone (sim_tcmp (or_eq (room_hu hr)) (sim_ix (sim_var 12) sim_int) (sim_var 13)))) (fun s H C cl fp => (sim_var 11))) sim_nil)))) (sim_bcons (sim_setLcD 15 (own := [("row", 16)]) rfl sc_law.nd gr (sim_itL (sim_var 10)) (blkOk_by (N := N_law) (sc := defScope st_law) (by decide +kernel)) (by decide) (fun s H C cl fp => (sim_bname 16 sc_law.nd)) (fun s H C cl fp => sim_tsnil) (fun s H C cl fp => (sim_callT cd_tuple rfl B.b_tuple (by decide +kernel) (sim_cons (sim_sortedSet rfl (sim_lc (own := [("k", 11)]) rfl sc_law.nd gr (sim_it (sim_var 16)) (blkOk_by (N := N_law) (sc := (relS psc_law_195_18 (defScope st_law))) (by decide +kernel)) (by decide) (fun s H C cl fp => (sim_bname 11 sc_law.nd)) (fun s H C cl fp => sim_tsnil) (fun s H C cl fp => (sim_ix (sim_ix (sim_var 9) (sim_var 11)) sim_int))) rfl B.b_sorted rfl B.b_set) sim_nil)))) (sim_bcons (sim_setD 17 (sim_callB (cd_maxR rfl (room_hu hr)) rfl B.b_max (by decide +kernel) (sim_cons (sim_lc (own := [("row", 16)]) rfl sc_law.nd gr (sim_itL (sim_var 10)) (blkOk_by (N := N_law) (sc := defScope st_law) (by decide +kernel)) (by decide) (fun s H C cl fp => (sim_bname 16 sc_law.nd)) (fun s H C cl fp => sim_tsnil) (fun s H C cl fp => (sim_callB cd_len rfl B.b_len (by decide +kernel) (sim_cons (sim_var 16) sim_nil)))) sim_nil)) sc_law.nd) (sim_bcons (sim_setD 18 (sim_tup (sim_cons (sim_var 17) (sim_cons (sim_ix (sim_lc (own := [("tick", 13)]) rfl sc_law.nd gr (sim_rng1 rfl B.b_range (sim_cons (sim_var 8) sim_nil)) (blkOk_by (N := N_law) (sc := defScope st_law) (by decide +kernel)) (by decide) (fun s H C cl fp => (sim_bname 13 sc_law.nd)) (fun s H C cl fp => (sim_tsone (sim_tcmp (or_eq (room_hu hr)) (sim_callB cd_len rfl B.b_len (by decide +kernel) (sim_cons (sim_ix (sim_var 10) (sim_var 13)) sim_nil)) (sim_var 17)))) (fun s H C cl fp => (sim_var 13))) sim_int) sim_nil))) sc_law.nd) (sim_bcons (sim_setD 19 (sim_lst (sim_cons (sim_lc (own := [("tick", 13)]) rfl sc_law.nd gr (sim_rng1 rfl B.b_range (sim_cons (sim_var 8) sim_nil)) (blkOk_by (N := N_law) (sc := defScope st_law) (by decide +kernel)) (by decide) (fun s H C cl fp => (sim_bname 13 sc_law.nd)) (fun s H C cl fp => sim_tsnil) (fun s H C cl fp => (sim_callD d_rings_at hT hr (by decide) LamX.takes0 rfl (sim_cons (sim_var 4) (sim_cons (sim_var 13) sim_nil))))) (sim_cons (sim_lc (own := [("tick", 13)]) rfl sc_law.nd gr (sim_rng1 rfl B.b_range (sim_cons (sim_var 8) sim_nil)) (blkOk_by (N := N_law) (sc := defScope st_law) (by decide +kernel)) (by decide) (fun s H C cl fp => (sim_bname 13 sc_law.nd)) (fun s H C cl fp => sim_tsnil) (fun s H C cl fp => (sim_callD d_begins_at hT hr (by decide) LamX.takes0 rfl (sim_cons (sim_var 4) (sim_cons (sim_var 13) sim_nil))))) (sim_cons (sim_lc (own := [("tick", 13)]) rfl sc_law.nd gr (sim_rng1 rfl B.b_range (sim_cons (sim_var 8) sim_nil)) (blkOk_by (N := N_law) (sc := defScope st_law) (by decide +kernel)) (by decide) (fun s H C cl fp => (sim_bname 13 sc_law.nd)) (fun s H C cl fp => sim_tsnil) (fun s H C cl fp => (sim_callD d_pitches_at hT hr (by decide) LamX.takes0 rfl (sim_cons (sim_var 4) (sim_cons (sim_var 13) sim_nil))))) sim_nil)))) sc_law.nd) (sim_bcons (sim_if (SimW.t (sim_or (sim_tnot (sim_tv (sim_callGD d__law_alike hT hgd hr (by decide) tk rfl (sim_cons (sim_var 19) (sim_cons (sim_lst (sim_cons (sim_var 10) (sim_cons (sim_var 14) (sim_cons (sim_var 15) sim_nil)))) sim_nil))))) (sim_or1 (sim_tnot (sim_tv (sim_callGD d__law_alike hT hgd hr (by decide) tk rfl (sim_cons (sim_callD d_loudest hT hr (by decide) tk rfl (sim_cons (sim_var 4) sim_nil)) (sim_cons (sim_var 18) sim_nil)))))))) (sim_bone (sim_ret sim_bl)) sim_bnil) (sim_bcons (sim_setD 20 (sim_ifx (sim_tcmp (or_ne (room_hu hr)) (sim_var 9) (sim_tup sim_nil)) (sim_tup (sim_cons (sim_callB (cd_minR rfl (room_hu hr)) rfl B.b_min (by decide +kernel) (sim_cons (sim_lc (own := [("note", 12)]) rfl sc_law.nd gr (sim_it (sim_var 9)) (blkOk_by (N := N_law) (sc := defScope st_law) (by decide +kernel)) (by decide) (fun s H C cl fp => (sim_bname 12 sc_law.nd)) (fun s H C cl fp => sim_tsnil) (fun s H C cl fp => (sim_ix (sim_var 12) sim_int))) sim_nil)) (sim_cons (sim_callB (cd_maxR rfl (room_hu hr)) rfl B.b_max (by decide +kernel) (sim_cons (sim_lc (own := [("note", 12)]) rfl sc_law.nd gr (sim_it (sim_var 9)) (blkOk_by (N := N_law) (sc := defScope st_law) (by decide +kernel)) (by decide) (fun s H C cl fp => (sim_bname 12 sc_law.nd)) (fun s H C cl fp => sim_tsnil) (fun s H C cl fp => (sim_ix (sim_var 12) sim_int))) sim_nil)) sim_nil))) sim_non) sc_law.nd) (sim_bcons (sim_if (sim_tnot (sim_tv (sim_callGD d__law_alike hT hgd hr (by decide) tk rfl (sim_cons (sim_lst (sim_cons (sim_callD d_span_of hT hr (by decide) tk rfl (sim_cons (sim_var 4) sim_nil)) (sim_cons (sim_lc (own := [("note", 12)]) rfl sc_law.nd gr (sim_it (sim_var 9)) (blkOk_by (N := N_law) (sc := defScope st_law) (by decide +kernel)) (by decide) (fun s H C cl fp => (sim_bname 12 sc_law.nd)) (fun s H C cl fp => sim_tsnil) (fun s H C cl fp => (sim_callD d_last_tick hT hr (by decide) LamX.takes0 rfl (sim_cons (sim_var 12) sim_nil)))) sim_nil))) (sim_cons (sim_lst (sim_cons (sim_var 20) (sim_cons (sim_lc (own := [("note", 12)]) rfl sc_law.nd gr (sim_it (sim_var 9)) (blkOk_by (N := N_law) (sc := defScope st_law) (by decide +kernel)) (by decide) (fun s H C cl fp => (sim_bname 12 sc_law.nd)) (fun s H C cl fp => sim_tsnil) (fun s H C cl fp => (sim_op or_sub (sim_op or_add (sim_ix (sim_var 12) sim_int) (sim_ix (sim_var 12) sim_int)) sim_int))) sim_nil))) sim_nil))))) (sim_bone (sim_ret sim_bl)) sim_bnil) (sim_bcons (sim_setD 21 (sim_callD d__law_some hT hr (by decide) tk rfl (sim_cons (sim_var 1) (sim_cons (sim_lst (sim_cons sim_int (sim_cons sim_int (sim_cons (sim_neg sim_int) (sim_cons sim_int (sim_cons (sim_neg sim_int) (sim_cons sim_int (sim_cons (sim_op or_sub (sim_callD d__law_take hT hr (by decide) tk rfl (sim_cons (sim_var 1) (sim_cons sim_int sim_nil))) sim_int) sim_nil)))))))) sim_nil))) sc_law.nd) (sim_bcons (sim_setD 22 (sim_callD d__law_checked hT hr (by decide) tk rfl (sim_cons (sim_tup (sim_cons (sim_var 8) (sim_cons (sim_callT cd_tuple rfl B.b_tuple (by decide +kernel) (sim_cons (sim_lc (own := [("tick", 13), ("pitch", 23), ("length", 24)]) rfl sc_law.nd gr (sim_it (sim_var 9)) (blkOk_by (N := N_law) (sc := defScope st_law) (by decide +kernel)) (by decide) (fun s H C cl fp => (sim_btup rfl (sim_btcons (sim_bname 13 sc_law.nd) (sim_btcons (sim_bname 23 sc_law.nd) (sim_btcons (sim_bname 24 sc_law.nd) sim_btnil))) (bCons_len bName_has (bCons_len bName_has (bCons_len bName_has bNil_len))))) (fun s H C cl fp => sim_tsnil) (fun s H C cl fp => (sim_tup (sim_cons (sim_var 13) (sim_cons (sim_op or_add (sim_var 23) (sim_var 21)) (sim_cons (sim_var 24) sim_nil)))))) sim_nil)) sim_nil))) sim_nil)) sc_law.nd) (sim_bcons (sim_setD 13 (sim_callD d__law_take hT hr (by decide) tk rfl (sim_cons (sim_var 1) (sim_cons (sim_var 8) sim_nil))) sc_law.nd) (sim_bcons (sim_setD 25 (sim_tup (sim_cons (sim_op or_sub (sim_var 8) (sim_var 13)) (sim_cons (sim_callT cd_tuple rfl B.b_tuple (by decide +kernel) (sim_cons (sim_lc (own := [("begin", 26), ("pitch", 23), ("length", 24)]) rfl sc_law.nd gr (sim_it (sim_var 9)) (blkOk_by (N := N_law) (sc := defScope st_law) (by decide +kernel)) (by decide) (fun s H C cl fp => (sim_btup rfl (sim_btcons (sim_bname 26 sc_law.nd) (sim_btcons (sim_bname 23 sc_law.nd) (sim_btcons (sim_bname 24 sc_law.nd) sim_btnil))) (bCons_len bName_has (bCons_len bName_has (bCons_len bName_has bNil_len))))) (fun s H C cl fp => (sim_tsone (sim_tcmp or_ge (sim_var 26) (sim_var 13)))) (fun s H C cl fp => (sim_tup (sim_cons (sim_op or_sub (sim_var 26) (sim_var 13)) (sim_cons (sim_var 23) (sim_cons (sim_var 24) sim_nil)))))) sim_nil)) sim_nil))) sc_law.nd) (sim_bcons (sim_setD 27 (sim_callD d__law_checked hT hr (by decide) tk rfl (sim_cons (sim_tup (sim_cons (sim_op or_add (sim_var 8) (sim_ix (sim_var 6) sim_int)) (sim_cons (sim_op or_add (sim_var 9) (sim_callT cd_tuple rfl B.b_tuple (by decide +kernel) (sim_cons (sim_lc (own := [("begin", 26), ("pitch", 23), ("length", 24)]) rfl sc_law.nd gr (sim_it (sim_ix (sim_var 6) sim_int)) (blkOk_by (N := N_law) (sc := defScope st_law) (by decide +kernel)) (by decide) (fun s H C cl fp => (sim_btup rfl (sim_btcons (sim_bname 26 sc_law.nd) (sim_btcons (sim_bname 23 sc_law.nd) (sim_btcons (sim_bname 24 sc_law.nd) sim_btnil))) (bCons_len bName_has (bCons_len bName_has (bCons_len bName_has bNil_len))))) (fun s H C cl fp => sim_tsnil) (fun s H C cl fp => (sim_tup (sim_cons (sim_op or_add (sim_var 26) (sim_var 8)) (sim_cons (sim_var 23) (sim_cons (sim_var 24) sim_nil)))))) sim_nil))) sim_nil))) sim_nil)) sc_law.nd) (sim_bcons (sim_set 28 (sim_lst (sim_cons (sim_raised (k := 16) (xs := ["BadScore", "Nothing", "TooLarge"]) F__law_raised rfl m__law_raised b__law_raised sc__law_raised rfl (Or.inl rfl) (fun cdg q => catch_gives sc__law_raised.nd (fun s H => (CatchOk.two (i := 1) ⟨rfl, by decide, .inl c_BadScore⟩ rfl rfl (Or.inl rfl) xf_BadScore nf_BadScore_number nf_BadScore_fault (CatchOk.plain ⟨rfl, by decide, .inl c_Nothing⟩ (CatchOk.two (i := 1) ⟨rfl, by decide, .inl c_TooLarge⟩ rfl rfl (Or.inl rfl) xf_TooLarge nf_TooLarge_what nf_TooLarge_limit CatchOk.nil)))) fun _ => rfl) ap__law_raised hcl_of TB hcode (by rw [hT]; exact hmT) (by rw [hT]; exact hmu) (hr.mono (by decide)) (LamX.lamS_by (by show LamX.lamSB (defScope st_law) _ = true; decide +kernel)) rfl (fun _ _ _ _ _ => rfl) (fun A outer s H E f c' hr => (sim_callD d_raised hT hr (by decide) (takes_of rfl rfl rfl rfl) rfl (sim_cons (sim_var 4) (sim_cons (sim_var 21) sim_nil))))) sim_nil)) sc_law.nd) (sim_bcons (sim_mt mt_append mo_append 28 PySem.F.slot_list_append PySem.F.type_list_append (sim_cons (sim_raised (k := 3) (xs := ["BadScore", "Nothing", "TooLarge"]) F__law_raised rfl m__law_raised b__law_raised sc__law_raised rfl (Or.inl rfl) (fun cdg q => catch_gives sc__law_raised.nd (fun s H => (CatchOk.two (i := 1) ⟨rfl, by decide, .inl c_BadScore⟩ rfl rfl (Or.inl rfl) xf_BadScore nf_BadScore_number nf_BadScore_fault (CatchOk.plain ⟨rfl, by decide, .inl c_Nothing⟩ (CatchOk.two (i := 1) ⟨rfl, by decide, .inl c_TooLarge⟩ rfl rfl (Or.inl rfl) xf_TooLarge nf_TooLarge_what nf_TooLarge_limit CatchOk.nil)))) fun _ => rfl) ap__law_raised hcl_of TB hcode (by rw [hT]; exact hmT) (by rw [hT]; exact hmu) (hr.mono (by decide)) (LamX.lamS_by (by show LamX.lamSB (defScope st_law) _ = true; decide +kernel)) rfl (fun _ _ _ _ _ => rfl) (fun A outer s H E f c' hr => (sim_callD d_from_tick hT hr (by decide) (takes_of rfl rfl rfl rfl) rfl (sim_cons (sim_var 4) (sim_cons (sim_var 13) sim_nil))))) sim_nil)) (sim_bcons (sim_mt mt_append mo_append 28 PySem.F.slot_list_append PySem.F.type_list_append (sim_cons (sim_raised (k := 16) (xs := ["BadScore", "Nothing", "TooLarge"]) F__law_raised rfl m__law_raised b__law_raised sc__law_raised rfl (Or.inl rfl) (fun cdg q => catch_gives sc__law_raised.nd (fun s H => (CatchOk.two (i := 1) ⟨rfl, by decide, .inl c_BadScore⟩ rfl rfl (Or.inl rfl) xf_BadScore nf_BadScore_number nf_BadScore_fault (CatchOk.plain ⟨rfl, by decide, .inl c_Nothing⟩ (CatchOk.two (i := 1) ⟨rfl, by decide, .inl c_TooLarge⟩ rfl rfl (Or.inl rfl) xf_TooLarge nf_TooLarge_what nf_TooLarge_limit CatchOk.nil)))) fun _ => rfl) ap__law_raised hcl_of TB hcode (by rw [hT]; exact hmT) (by rw [hT]; exact hmu) (hr.mono (by decide)) (LamX.lamS_by (by show LamX.lamSB (defScope st_law) _ = true; decide +kernel)) rfl (fun _ _ _ _ _ => rfl) (fun A outer s H E f c' hr => (sim_callD d_joined hT hr (by decide) (takes_of rfl rfl rfl rfl) rfl (sim_cons (sim_var 4) (sim_cons (sim_var 6) sim_nil))))) sim_nil)) (sim_bcons (sim_if (sim_tnot (sim_tv (sim_thaw 28 gr (sim_callGD d__law_alike hT hgd hr (by decide) tk rfl (sim_cons (sim_var 28) (sim_cons (sim_lst (sim_cons (sim_var 22) (sim_cons (sim_tup (sim_cons sim_str (sim_cons (sim_var 25) sim_nil))) (sim_cons (sim_var 27) sim_nil)))) sim_nil)))))) (sim_bone (sim_ret sim_bl)) sim_bnil) (sim_bcons (sim_setD 29 (sim_op or_add (sim_op or_add (sim_lst (sim_cons (sim_tup (sim_cons (sim_var 13) (sim_cons (sim_op or_sub (sim_callD d__law_take hT hr (by decide) tk rfl (sim_cons (sim_var 1) (sim_cons sim_int sim_nil))) sim_int) (sim_cons (sim_op or_add sim_int (sim_callD d__law_take hT hr (by decide) tk rfl (sim_cons (sim_var 1) (sim_cons sim_int sim_nil)))) sim_nil)))) (sim_cons (sim_tup (sim_cons sim_int (sim_cons sim_int (sim_cons sim_int sim_nil)))) (sim_cons (sim_tup (sim_cons (sim_var 8) (sim_cons sim_int (sim_cons sim_int sim_nil)))) sim_nil)))) (sim_callT cd_list rfl B.b_list (by decide +kernel) (sim_cons (sim_sl (sim_var 9) sim_no (sim_so sim_int)) sim_nil))) (sim_lst (sim_cons sim_non (sim_cons (sim_tup (sim_cons sim_int (sim_cons sim_int sim_nil))) (sim_cons (sim_tup (sim_cons sim_int (sim_cons sim_int (sim_cons sim_int sim_nil)))) (sim_cons (sim_tup (sim_cons sim_bl (sim_cons sim_int (sim_cons sim_int sim_nil)))) (sim_cons (sim_lst (sim_cons sim_int (sim_cons sim_int (sim_cons sim_int sim_nil)))) sim_nil))))))) sc_law.nd) (sim_bcons (sim_setD 12 (sim_callD d__law_some hT hr (by decide) tk rfl (sim_cons (sim_var 1) (sim_cons (sim_var 29) sim_nil))) sc_law.nd) (sim_bcons (sim_setD 30 (sim_vand (sim_isi ci_tuple rfl B.b_isinstance rfl B.b_tuple (by decide +kernel) (sim_var 12)) (sim_vand (sim_cmp (or_eq (room_hu hr)) (sim_callB cd_len rfl B.b_len (by decide +kernel) (sim_cons (sim_var 12) sim_nil)) sim_int) (sim_vand (sim_cmp or_isnotB (sim_ix (sim_var 12) sim_int) sim_bl) (sim_vand (sim_cmp or_gt (sim_ix (sim_var 12) sim_int) sim_int) (sim_vone (sim_cmp (or_nin (room_hu hr)) (sim_var 12) (sim_var 9))))))) sc_law.nd) (sim_bcons (sim_setD 22 (sim_ifx (sim_tv (sim_var 30)) (sim_callD d__law_checked hT hr (by decide) tk rfl (sim_cons (sim_tup (sim_cons (sim_var 8) (sim_cons (sim_callT cd_tuple rfl B.b_tuple (by decide +kernel) (sim_cons (sim_callB (cd_sorted hu) rfl B.b_sorted (by decide +kernel) (sim_cons (sim_op or_add (sim_var 9) (sim_tup (sim_cons (sim_var 12) sim_nil))) sim_nil)) sim_nil)) sim_nil))) sim_nil)) (sim_tup (sim_cons sim_str sim_nil))) sc_law.nd) (sim_bcons (sim_setD 11 (sim_callD d__law_take hT hr (by decide) tk rfl (sim_cons (sim_var 1) (sim_cons (sim_op or_add (sim_callB cd_len rfl B.b_len (by decide +kernel) (sim_cons (sim_var 9) sim_nil)) sim_int) sim_nil))) sc_law.nd) (sim_bcons (sim_setD 31 (sim_ifx (sim_tcmp or_lt (sim_var 11) (sim_callB cd_len rfl B.b_len (by decide +kernel) (sim_cons (sim_var 9) sim_nil))) (sim_tup (sim_cons sim_str (sim_cons (sim_tup (sim_cons (sim_var 8) (sim_cons (sim_op or_add (sim_sl (sim_var 9) sim_no (sim_so (sim_var 11))) (sim_sl (sim_var 9) (sim_so (sim_op or_add (sim_var 11) sim_int)) sim_no)) sim_nil))) sim_nil))) (sim_tup (sim_cons sim_str sim_nil))) sc_law.nd) (sim_bcons (sim_set 28 (sim_lst (sim_cons (sim_raised (k := 16) (xs := ["BadScore", "Nothing", "TooLarge"]) F__law_raised rfl m__law_raised b__law_raised sc__law_raised rfl (Or.inl rfl) (fun cdg q => catch_gives sc__law_raised.nd (fun s H => (CatchOk.two (i := 1) ⟨rfl, by decide, .inl c_BadScore⟩ rfl rfl (Or.inl rfl) xf_BadScore nf_BadScore_number nf_BadScore_fault (CatchOk.plain ⟨rfl, by decide, .inl c_Nothing⟩ (CatchOk.two (i := 1) ⟨rfl, by decide, .inl c_TooLarge⟩ rfl rfl (Or.inl rfl) xf_TooLarge nf_TooLarge_what nf_TooLarge_limit CatchOk.nil)))) fun _ => rfl) ap__law_raised hcl_of TB hcode (by rw [hT]; exact hmT) (by rw [hT]; exact hmu) (hr.mono (by decide)) (LamX.lamS_by (by show LamX.lamSB (defScope st_law) _ = true; decide +kernel)) rfl (fun _ _ _ _ _ => rfl) (fun A outer s H E f c' hr => (sim_callD d_with_note hT hr (by decide) (takes_of rfl rfl rfl rfl) rfl (sim_cons (sim_var 4) (sim_cons (sim_var 12) sim_nil))))) sim_nil)) sc_law.nd) (sim_bcons (sim_mt mt_append mo_append 28 PySem.F.slot_list_append PySem.F.type_list_append (sim_cons (sim_raised (k := 3) (xs := ["BadScore", "Nothing", "TooLarge"]) F__law_raised rfl m__law_raised b__law_raised sc__law_raised rfl (Or.inl rfl) (fun cdg q => catch_gives sc__law_raised.nd (fun s H => (CatchOk.two (i := 1) ⟨rfl, by decide, .inl c_BadScore⟩ rfl rfl (Or.inl rfl) xf_BadScore nf_BadScore_number nf_BadScore_fault (CatchOk.plain ⟨rfl, by decide, .inl c_Nothing⟩ (CatchOk.two (i := 1) ⟨rfl, by decide, .inl c_TooLarge⟩ rfl rfl (Or.inl rfl) xf_TooLarge nf_TooLarge_what nf_TooLarge_limit CatchOk.nil)))) fun _ => rfl) ap__law_raised hcl_of TB hcode (by rw [hT]; exact hmT) (by rw [hT]; exact hmu) (hr.mono (by decide)) (LamX.lamS_by (by show LamX.lamSB (defScope st_law) _ = true; decide +kernel)) rfl (fun _ _ _ _ _ => rfl) (fun A outer s H E f c' hr => (sim_callD d_without_note hT hr (by decide) (takes_of rfl rfl rfl rfl) rfl (sim_cons (sim_var 4) (sim_cons (sim_var 11) sim_nil))))) sim_nil)) (sim_bcons (sim_mt mt_append mo_append 28 PySem.F.slot_list_append PySem.F.type_list_append (sim_cons (sim_raised (k := 3) (xs := ["BadScore", "Nothing", "TooLarge"]) F__law_raised rfl m__law_raised b__law_raised sc__law_raised rfl (Or.inl rfl) (fun cdg q => catch_gives sc__law_raised.nd (fun s H => (CatchOk.two (i := 1) ⟨rfl, by decide, .inl c_BadScore⟩ rfl rfl (Or.inl rfl) xf_BadScore nf_BadScore_number nf_BadScore_fault (CatchOk.plain ⟨rfl, by decide, .inl c_Nothing⟩ (CatchOk.two (i := 1) ⟨rfl, by decide, .inl c_TooLarge⟩ rfl rfl (Or.inl rfl) xf_TooLarge nf_TooLarge_what nf_TooLarge_limit CatchOk.nil)))) fun _ => rfl) ap__law_raised hcl_of TB hcode (by rw [hT]; exact hmT) (by rw [hT]; exact hmu) (hr.mono (by decide)) (LamX.lamS_by (by show LamX.lamSB (defScope st_law) _ = true; decide +kernel)) rfl (fun _ _ _ _ _ => rfl) (fun A outer s H E f c' hr => (sim_callD d_without_note hT hr (by decide) (takes_of rfl rfl rfl rfl) rfl (sim_cons (sim_var 4) (sim_cons (sim_callD d__law_some hT hr (by decide) (takes_of rfl rfl rfl rfl) rfl (sim_cons (sim_var 1) (sim_cons (sim_lst (sim_cons (sim_neg sim_int) (sim_cons sim_non (sim_cons (sim_ifx (sim_tcmp or_lt (sim_callB cd_len rfl B.b_len (by decide +kernel) (sim_cons (sim_var 9) sim_nil)) sim_int) sim_bl (sim_neg sim_int)) sim_nil)))) sim_nil))) sim_nil))))) sim_nil)) (sim_bcons (sim_mt mt_append mo_append 28 PySem.F.slot_list_append PySem.F.type_list_append (sim_cons (sim_raised (k := 3) (xs := ["BadScore", "Nothing", "TooLarge"]) F__law_raised rfl m__law_raised b__law_raised sc__law_raised rfl (Or.inl rfl) (fun cdg q => catch_gives sc__law_raised.nd (fun s H => (CatchOk.two (i := 1) ⟨rfl, by decide, .inl c_BadScore⟩ rfl rfl (Or.inl rfl) xf_BadScore nf_BadScore_number nf_BadScore_fault (CatchOk.plain ⟨rfl, by decide, .inl c_Nothing⟩ (CatchOk.two (i := 1) ⟨rfl, by decide, .inl c_TooLarge⟩ rfl rfl (Or.inl rfl) xf_TooLarge nf_TooLarge_what nf_TooLarge_limit CatchOk.nil)))) fun _ => rfl) ap__law_raised hcl_of TB hcode (by rw [hT]; exact hmT) (by rw [hT]; exact hmu) (hr.mono (by decide)) (LamX.lamS_by (by show LamX.lamSB (defScope st_law) _ = true; decide +kernel)) rfl (fun _ _ _ _ _ => rfl) (fun A outer s H E f c' hr => (sim_callD d_from_tick hT hr (by decide) (takes_of rfl rfl rfl rfl) rfl (sim_cons (sim_var 4) (sim_cons (sim_callD d__law_some hT hr (by decide) (takes_of rfl rfl rfl rfl) rfl (sim_cons (sim_var 1) (sim_cons (sim_lst (sim_cons (sim_neg sim_int) (sim_cons (sim_var 8) (sim_cons sim_non (sim_cons (sim_ifx (sim_tcmp or_lt (sim_var 8) sim_int) sim_bl (sim_op or_add (sim_var 8) sim_int)) sim_nil))))) sim_nil))) sim_nil))))) sim_nil)) (sim_bcons (sim_mt mt_append mo_append 28 PySem.F.slot_list_append PySem.F.type_list_append (sim_cons (sim_raised (k := 16) (xs := ["BadScore", "Nothing", "TooLarge"]) F__law_raised rfl m__law_raised b__law_raised sc__law_raised rfl (Or.inl rfl) (fun cdg q => catch_gives sc__law_raised.nd (fun s H => (CatchOk.two (i := 1) ⟨rfl, by decide, .inl c_BadScore⟩ rfl rfl (Or.inl rfl) xf_BadScore nf_BadScore_number nf_BadScore_fault (CatchOk.plain ⟨rfl, by decide, .inl c_Nothing⟩ (CatchOk.two (i := 1) ⟨rfl, by decide, .inl c_TooLarge⟩ rfl rfl (Or.inl rfl) xf_TooLarge nf_TooLarge_what nf_TooLarge_limit CatchOk.nil)))) fun _ => rfl) ap__law_raised hcl_of TB hcode (by rw [hT]; exact hmT) (by rw [hT]; exact hmu) (hr.mono (by decide)) (LamX.lamS_by (by show LamX.lamSB (defScope st_law) _ = true; decide +kernel)) rfl (fun _ _ _ _ _ => rfl) (fun A outer s H E f c' hr => (sim_callD d_raised hT hr (by decide) (takes_of rfl rfl rfl rfl) rfl (sim_cons (sim_var 4) (sim_cons (sim_callD d__law_some hT hr (by decide) (takes_of rfl rfl rfl rfl) rfl (sim_cons (sim_var 1) (sim_cons (sim_lst (sim_cons sim_non (sim_cons sim_bl (sim_cons sim_str sim_nil)))) sim_nil))) sim_nil))))) sim_nil)) (sim_bone (sim_if (sim_tnot (sim_tv (sim_thaw 28 gr (sim_callGD d__law_alike hT hgd hr (by decide) tk rfl (sim_cons (sim_var 28) (sim_cons (sim_op or_add (sim_lst (sim_cons (sim_var 22) (sim_cons (sim_var 31) sim_nil))) (sim_op or_mul (sim_lst (sim_cons (sim_tup (sim_cons sim_str sim_nil)) sim_nil)) sim_int)) sim_nil)))))) (sim_bone (sim_ret sim_bl)) sim_bnil)))))))))))))))))))))))))))))))))))) (sim_bcons (sim_setD 32 (sim_tup (sim_cons sim_int (sim_cons (sim_tup (sim_cons (sim_tup (sim_cons sim_int (sim_cons sim_int (sim_cons sim_int sim_nil)))) sim_nil)) sim_nil))) sc_law.nd) (sim_bcons (sim_if (sim_tcmp (or_ne (room_hu hr)) (sim_raised (k := 16) (xs := ["BadScore", "Nothing", "TooLarge"]) F__law_raised rfl m__law_raised b__law_raised sc__law_raised rfl (Or.inl rfl) (fun cdg q => catch_gives sc__law_raised.nd (fun s H => (CatchOk.two (i := 1) ⟨rfl, by decide, .inl c_BadScore⟩ rfl rfl (Or.inl rfl) xf_BadScore nf_BadScore_number nf_BadScore_fault (CatchOk.plain ⟨rfl, by decide, .inl c_Nothing⟩ (CatchOk.two (i := 1) ⟨rfl, by decide, .inl c_TooLarge⟩ rfl rfl (Or.inl rfl) xf_TooLarge nf_TooLarge_what nf_TooLarge_limit CatchOk.nil)))) fun _ => rfl) ap__law_raised hcl_of TB hcode (by rw [hT]; exact hmT) (by rw [hT]; exact hmu) (hr.mono (by decide)) (LamX.lamS_by (by show LamX.lamSB (defScope st_law) _ = true; decide +kernel)) rfl (fun _ _ _ _ _ => rfl) (fun A outer s H E f c' hr => (sim_callD d_joined hT hr (by decide) (takes_of rfl rfl rfl rfl) rfl (sim_cons (sim_var 32) (sim_cons (sim_tup (sim_cons sim_int (sim_cons (sim_tup sim_nil) sim_nil))) sim_nil))))) (sim_tup (sim_cons sim_str (sim_cons sim_str (sim_cons sim_int sim_nil))))) (sim_bone (sim_ret sim_bl)) sim_bnil) (sim_bone (sim_ret (sim_cmp (or_eq (room_hu hr)) (sim_raised (k := 16) (xs := ["BadScore", "Nothing", "TooLarge"]) F__law_raised rfl m__law_raised b__law_raised sc__law_raised rfl (Or.inl rfl) (fun cdg q => catch_gives sc__law_raised.nd (fun s H => (CatchOk.two (i := 1) ⟨rfl, by decide, .inl c_BadScore⟩ rfl rfl (Or.inl rfl) xf_BadScore nf_BadScore_number nf_BadScore_fault (CatchOk.plain ⟨rfl, by decide, .inl c_Nothing⟩ (CatchOk.two (i := 1) ⟨rfl, by decide, .inl c_TooLarge⟩ rfl rfl (Or.inl rfl) xf_TooLarge nf_TooLarge_what nf_TooLarge_limit CatchOk.nil)))) fun _ => rfl) ap__law_raised hcl_of TB hcode (by rw [hT]; exact hmT) (by rw [hT]; exact hmu) (hr.mono (by decide)) (LamX.lamS_by (by show LamX.lamSB (defScope st_law) _ = true; decide +kernel)) rfl (fun _ _ _ _ _ => rfl) (fun A outer s H E f c' hr => (sim_callD d_joined hT hr (by decide) (takes_of rfl rfl rfl rfl) rfl (sim_cons (sim_var 32) (sim_cons (sim_tup (sim_cons sim_int (sim_cons (sim_tup (sim_cons (sim_tup (sim_cons sim_int (sim_cons sim_int (sim_cons sim_int sim_nil)))) sim_nil)) sim_nil))) sim_nil))))) (sim_tup (sim_cons sim_str (sim_cons (sim_tup (sim_cons sim_int (sim_cons (sim_tup (sim_cons (sim_tup (sim_cons sim_int (sim_cons sim_int (sim_cons sim_int sim_nil)))) (sim_cons (sim_tup (sim_cons sim_int (sim_cons sim_int (sim_cons sim_int sim_nil)))) sim_nil))) sim_nil))) sim_nil)))))))))
end
end Pd

namespace Pd
open PySem PySem.Spec PyProof.Rows L2
theorem v_is_number : V_is_number := by
  intro ys R Ex hl ha h
  obtain ⟨x, rfl, h⟩ := h
  show w_is_number (endW R Ex) [some (.d x)]
  simp only [w_is_number, wSeq, wIfS, wSkip, wRet, wRetN, wRetL, wRaise0, wSetD, wSet, wAug, wAsg, wMt, wFor, wDo, wFrz, wBagSet, wBagAdd, wBagCell, wBag, wVar, wC, wOp, wNeg, wTv, wTnot, wTand, wTor, wAnd, wOr, wNot, wIf, wChain, wIsN, wIsi, wNil, wCons, wStar, wTup, wLst, wCB, wCall, wCallV, wCallL, wFnA, wHeard, wSl, wSo, wNo, wRng1, wRng2, wRng3, wIt, wItL, wItS, wLc, wYes, wSortedSet, bName, bTup, bCons, bNil, op1, op2i, bLen, bAbs, bMax2, bMin2, bInt, bTuple, bList, bAll, bAny, bSum, bRepr, opAdd, opSub, opMul, opMod, opFdiv, opPow, opCmp, opEq, opNe, opInB, opIsB, opIx, opSl, mAppend, mInsert, mExtend, keeps, toArgs, toArg, Val.rd, Val.kp, brw, slv, isNon, noFn, endW, wipeE, List.getElem?_cons_zero, List.getElem?_cons_succ, List.map_cons, List.map_nil, List.cons_append, List.nil_append, List.set_cons_zero, List.set_cons_succ, List.length_cons, List.length_nil, Bool.false_xor, Bool.true_xor, wEnum, wZip, bSorted, bStr, wFmt, wJoined, wJcons, wJnil, wLR1, wTR3, wPm, pIndex, reads, tyD, opRepT, wLc2, wUnp, wUcons, wThaw, wThawT, wRev, wRaise2, wRaised, opCmpD, bBest, wSortedKeys, wIntE]
  unfold isNum at h
  cases e : isIntD x <;> simp_all
theorem v_is_index : V_is_index := by
  intro ys R Ex hl ha h
  obtain ⟨x, rfl, h⟩ := h
  show w_is_index (endW R Ex) [some (.d x)]
  simp only [w_is_index, wSeq, wIfS, wSkip, wRet, wRetN, wRetL, wRaise0, wSetD, wSet, wAug, wAsg, wMt, wFor, wDo, wFrz, wBagSet, wBagAdd, wBagCell, wBag, wVar, wC, wOp, wNeg, wTv, wTnot, wTand, wTor, wAnd, wOr, wNot, wIf, wChain, wIsN, wIsi, wNil, wCons, wStar, wTup, wLst, wCB, wCall, wCallV, wCallL, wFnA, wHeard, wSl, wSo, wNo, wRng1, wRng2, wRng3, wIt, wItL, wItS, wLc, wYes, wSortedSet, bName, bTup, bCons, bNil, op1, op2i, bLen, bAbs, bMax2, bMin2, bInt, bTuple, bList, bAll, bAny, bSum, bRepr, opAdd, opSub, opMul, opMod, opFdiv, opPow, opCmp, opEq, opNe, opInB, opIsB, opIx, opSl, mAppend, mInsert, mExtend, keeps, toArgs, toArg, Val.rd, Val.kp, brw, slv, isNon, noFn, endW, wipeE, List.getElem?_cons_zero, List.getElem?_cons_succ, List.map_cons, List.map_nil, List.cons_append, List.nil_append, List.set_cons_zero, List.set_cons_succ, List.length_cons, List.length_nil, Bool.false_xor, Bool.true_xor, wEnum, wZip, bSorted, bStr, wFmt, wJoined, wJcons, wJnil, wLR1, wTR3, wPm, pIndex, reads, tyD, opRepT, wLc2, wUnp, wUcons, wThaw, wThawT, wRev, wRaise2, wRaised, opCmpD, bBest, wSortedKeys, wIntE, Φ_is_number]
  refine ⟨trivial, x, rfl, ?_⟩
  cases x with
  | int i => simpa [isNum, isIntD, isBoolD, isIndex] using h
  | _ => simpa [isNum, isIntD, isBoolD, isIndex] using h
theorem v_is_sized : V_is_sized := by
  intro ys R Ex hl ha h
  obtain ⟨x, m, rfl, h⟩ := h
  show w_is_sized (endW R Ex) [some (.d x), some (.d (.int m))]
  simp only [w_is_sized, wSeq, wIfS, wSkip, wRet, wRetN, wRetL, wRaise0, wSetD, wSet, wAug, wAsg, wMt, wFor, wDo, wFrz, wBagSet, wBagAdd, wBagCell, wBag, wVar, wC, wOp, wNeg, wTv, wTnot, wTand, wTor, wAnd, wOr, wNot, wIf, wChain, wIsN, wIsi, wNil, wCons, wStar, wTup, wLst, wCB, wCall, wCallV, wCallL, wFnA, wHeard, wSl, wSo, wNo, wRng1, wRng2, wRng3, wIt, wItL, wItS, wLc, wYes, wSortedSet, bName, bTup, bCons, bNil, op1, op2i, bLen, bAbs, bMax2, bMin2, bInt, bTuple, bList, bAll, bAny, bSum, bRepr, opAdd, opSub, opMul, opMod, opFdiv, opPow, opCmp, opEq, opNe, opInB, opIsB, opIx, opSl, mAppend, mInsert, mExtend, keeps, toArgs, toArg, Val.rd, Val.kp, brw, slv, isNon, noFn, endW, wipeE, List.getElem?_cons_zero, List.getElem?_cons_succ, List.map_cons, List.map_nil, List.cons_append, List.nil_append, List.set_cons_zero, List.set_cons_succ, List.length_cons, List.length_nil, Bool.false_xor, Bool.true_xor, wEnum, wZip, bSorted, bStr, wFmt, wJoined, wJcons, wJnil, wLR1, wTR3, wPm, pIndex, reads, tyD, opRepT, wLc2, wUnp, wUcons, wThaw, wThawT, wRev, wRaise2, wRaised, opCmpD, bBest, wSortedKeys, wIntE]
  cases x with
  | tuple ds =>
    simp only [isTupleD, if_true, wSeq, wIfS, wSkip, wRet, wRetN, wRetL, wRaise0, wSetD, wSet, wAug, wAsg, wMt, wFor, wDo, wFrz, wBagSet, wBagAdd, wBagCell, wBag, wVar, wC, wOp, wNeg, wTv, wTnot, wTand, wTor, wAnd, wOr, wNot, wIf, wChain, wIsN, wIsi, wNil, wCons, wStar, wTup, wLst, wCB, wCall, wCallV, wCallL, wFnA, wHeard, wSl, wSo, wNo, wRng1, wRng2, wRng3, wIt, wItL, wItS, wLc, wYes, wSortedSet, bName, bTup, bCons, bNil, op1, op2i, bLen, bAbs, bMax2, bMin2, bInt, bTuple, bList, bAll, bAny, bSum, bRepr, opAdd, opSub, opMul, opMod, opFdiv, opPow, opCmp, opEq, opNe, opInB, opIsB, opIx, opSl, mAppend, mInsert, mExtend, keeps, toArgs, toArg, Val.rd, Val.kp, brw, slv, isNon, noFn, endW, wipeE, List.getElem?_cons_zero, List.getElem?_cons_succ, List.map_cons, List.map_nil, List.cons_append, List.nil_append, List.set_cons_zero, List.set_cons_succ, List.length_cons, List.length_nil, Bool.false_xor, Bool.true_xor, wEnum, wZip, bSorted, bStr, wFmt, wJoined, wJcons, wJnil, wLR1, wTR3, wPm, pIndex, reads, tyD, opRepT, wLc2, wUnp, wUcons, wThaw, wThawT, wRev, wRaise2, wRaised, opCmpD, bBest, wSortedKeys, wIntE]
    refine ⟨by simp [PyData.depth], ?_⟩
    have e : PyData.eqv (.int (ds.length : Nat)) (.int m) = decide ((ds.length : Int) = m) := by
      simp only [PyData.eqv]; rw [Bool.eq_iff_iff]; simp
    rw [e]
    exact h
  | _ => simpa [isTupleD, isSized] using h
theorem v_is_tuple_of : V_is_tuple_of := by
  intro ys R Ex hl ha h
  obtain ⟨x, f, φ, rfl, h⟩ := h
  show w_is_tuple_of (endW R Ex) [some (.d x), some (.fn f φ), none]
  simp only [w_is_tuple_of, wSeq, wIfS, wSkip, wRet, wRetN, wRetL, wRaise0, wSetD, wSet, wAug, wAsg, wMt, wFor, wDo, wFrz, wBagSet, wBagAdd, wBagCell, wBag, wVar, wC, wOp, wNeg, wTv, wTnot, wTand, wTor, wAnd, wOr, wNot, wIf, wChain, wIsN, wIsi, wNil, wCons, wStar, wTup, wLst, wCB, wCall, wCallV, wCallL, wFnA, wHeard, wSl, wSo, wNo, wRng1, wRng2, wRng3, wIt, wItL, wItS, wLc, wYes, wSortedSet, bName, bTup, bCons, bNil, op1, op2i, bLen, bAbs, bMax2, bMin2, bInt, bTuple, bList, bAll, bAny, bSum, bRepr, opAdd, opSub, opMul, opMod, opFdiv, opPow, opCmp, opEq, opNe, opInB, opIsB, opIx, opSl, mAppend, mInsert, mExtend, keeps, toArgs, toArg, Val.rd, Val.kp, brw, slv, isNon, noFn, endW, wipeE, List.getElem?_cons_zero, List.getElem?_cons_succ, List.map_cons, List.map_nil, List.cons_append, List.nil_append, List.set_cons_zero, List.set_cons_succ, List.length_cons, List.length_nil, Bool.false_xor, Bool.true_xor, wEnum, wZip, bSorted, bStr, wFmt, wJoined, wJcons, wJnil, wLR1, wTR3, wPm, pIndex, reads, tyD, opRepT, wLc2, wUnp, wUcons, wThaw, wThawT, wRev, wRaise2, wRaised, opCmpD, bBest, wSortedKeys, wIntE]
  rcases h with ⟨ds, g, rfl, hφ, hR⟩ | ⟨hx, hR⟩
  · simp only [isTupleD, if_true, wSeq, wIfS, wSkip, wRet, wRetN, wRetL, wRaise0, wSetD, wSet, wAug, wAsg, wMt, wFor, wDo, wFrz, wBagSet, wBagAdd, wBagCell, wBag, wVar, wC, wOp, wNeg, wTv, wTnot, wTand, wTor, wAnd, wOr, wNot, wIf, wChain, wIsN, wIsi, wNil, wCons, wStar, wTup, wLst, wCB, wCall, wCallV, wCallL, wFnA, wHeard, wSl, wSo, wNo, wRng1, wRng2, wRng3, wIt, wItL, wItS, wLc, wYes, wSortedSet, bName, bTup, bCons, bNil, op1, op2i, bLen, bAbs, bMax2, bMin2, bInt, bTuple, bList, bAll, bAny, bSum, bRepr, opAdd, opSub, opMul, opMod, opFdiv, opPow, opCmp, opEq, opNe, opInB, opIsB, opIx, opSl, mAppend, mInsert, mExtend, keeps, toArgs, toArg, Val.rd, Val.kp, brw, slv, isNon, noFn, endW, wipeE, List.getElem?_cons_zero, List.getElem?_cons_succ, List.map_cons, List.map_nil, List.cons_append, List.nil_append, List.set_cons_zero, List.set_cons_succ, List.length_cons, List.length_nil, Bool.false_xor, Bool.true_xor, wEnum, wZip, bSorted, bStr, wFmt, wJoined, wJcons, wJnil, wLR1, wTR3, wPm, pIndex, reads, tyD, opRepT, wLc2, wUnp, wUcons, wThaw, wThawT, wRev, wRaise2, wRaised, opCmpD, bBest, wSortedKeys, wIntE]
    refine lcW_map (fun d => .bool (g d)) (fun d m K hK => ?_) ?_
    · simp only [wSeq, wIfS, wSkip, wRet, wRetN, wRetL, wRaise0, wSetD, wSet, wAug, wAsg, wMt, wFor, wDo, wFrz, wBagSet, wBagAdd, wBagCell, wBag, wVar, wC, wOp, wNeg, wTv, wTnot, wTand, wTor, wAnd, wOr, wNot, wIf, wChain, wIsN, wIsi, wNil, wCons, wStar, wTup, wLst, wCB, wCall, wCallV, wCallL, wFnA, wHeard, wSl, wSo, wNo, wRng1, wRng2, wRng3, wIt, wItL, wItS, wLc, wYes, wSortedSet, bName, bTup, bCons, bNil, op1, op2i, bLen, bAbs, bMax2, bMin2, bInt, bTuple, bList, bAll, bAny, bSum, bRepr, opAdd, opSub, opMul, opMod, opFdiv, opPow, opCmp, opEq, opNe, opInB, opIsB, opIx, opSl, mAppend, mInsert, mExtend, keeps, toArgs, toArg, Val.rd, Val.kp, brw, slv, isNon, noFn, endW, wipeE, List.getElem?_cons_zero, List.getElem?_cons_succ, List.map_cons, List.map_nil, List.cons_append, List.nil_append, List.set_cons_zero, List.set_cons_succ, List.length_cons, List.length_nil, Bool.false_xor, Bool.true_xor, wEnum, wZip, bSorted, bStr, wFmt, wJoined, wJcons, wJnil, wLR1, wTR3, wPm, pIndex, reads, tyD, opRepT, wLc2, wUnp, wUcons, wThaw, wThawT, wRev, wRaise2, wRaised, opCmpD, bBest, wSortedKeys, wIntE]
      exact hφ d m _ hK
    · have e : ([] ++ ds.map fun d => PyData.bool (g d)) = (ds.map g).map .bool := by simp
      rw [e]
      have : boolsOf ((ds.map g).map .bool) = some (ds.map g) := by
        generalize ds.map g = l
        induction l with
        | nil => rfl
        | cons a r ih => simp [boolsOf, ih]
      simp only [wSeq, wIfS, wSkip, wRet, wRetN, wRetL, wRaise0, wSetD, wSet, wAug, wAsg, wMt, wFor, wDo, wFrz, wBagSet, wBagAdd, wBagCell, wBag, wVar, wC, wOp, wNeg, wTv, wTnot, wTand, wTor, wAnd, wOr, wNot, wIf, wChain, wIsN, wIsi, wNil, wCons, wStar, wTup, wLst, wCB, wCall, wCallV, wCallL, wFnA, wHeard, wSl, wSo, wNo, wRng1, wRng2, wRng3, wIt, wItL, wItS, wLc, wYes, wSortedSet, bName, bTup, bCons, bNil, op1, op2i, bLen, bAbs, bMax2, bMin2, bInt, bTuple, bList, bAll, bAny, bSum, bRepr, opAdd, opSub, opMul, opMod, opFdiv, opPow, opCmp, opEq, opNe, opInB, opIsB, opIx, opSl, mAppend, mInsert, mExtend, keeps, toArgs, toArg, Val.rd, Val.kp, brw, slv, isNon, noFn, endW, wipeE, List.getElem?_cons_zero, List.getElem?_cons_succ, List.map_cons, List.map_nil, List.cons_append, List.nil_append, List.set_cons_zero, List.set_cons_succ, List.length_cons, List.length_nil, Bool.false_xor, Bool.true_xor, wEnum, wZip, bSorted, bStr, wFmt, wJoined, wJcons, wJnil, wLR1, wTR3, wPm, pIndex, reads, tyD, opRepT, wLc2, wUnp, wUcons, wThaw, wThawT, wRev, wRaise2, wRaised, opCmpD, bBest, wSortedKeys, wIntE, this]
      simpa using hR
  · simpa [hx] using hR
theorem v_is_note : V_is_note := by
  intro ys R Ex hl ha h
  obtain ⟨x, rfl, hR⟩ := h
  refine ⟨rfl, x, 3, rfl, ?_⟩
  cases e : isSized 3 x with
  | false =>
    have e2 : isNote x = false := by
      unfold isNote
      split
      · exact absurd e (by simp [isSized])
      · rfl
    rw [e2] at hR
    exact hR
  | true =>
    obtain ⟨ds, rfl, hl⟩ := sized_of (n := 3) e
    obtain ⟨a, b, c, rfl⟩ : ∃ a b c, ds = [a, b, c] := by
      match ds, hl with
      | [a, b, c], _ => exact ⟨a, b, c, rfl⟩
    refine ⟨rfl, a, rfl, ?_⟩
    have hR' : R (.d (.bool (isIndex a && (isNum b && isPosI c)))) := hR
    cases e1 : isIndex a with
    | false => rw [e1] at hR'; exact hR'
    | true =>
      refine ⟨rfl, b, rfl, ?_⟩
      cases e2 : isNum b with
      | false => rw [e1, e2] at hR'; exact hR'
      | true =>
        refine ⟨rfl, c, rfl, ?_⟩
        rw [e1, e2] at hR'
        cases e3 : isIndex c with
        | false =>
          have e4 : isPosI c = false := by
            cases c with
            | int i =>
              simp only [isIndex, decide_eq_false_iff_not] at e3
              simp only [isPosI, decide_eq_false_iff_not]
              omega
            | _ => rfl
          rw [e4] at hR'
          exact hR'
        | true =>
          obtain ⟨i, rfl, hi⟩ := isIndex_of e3
          exact hR'
theorem v_is_score_form : V_is_score_form := by
  intro ys R Ex hl ha h
  obtain ⟨x, rfl, hR⟩ := h
  refine ⟨rfl, x, 2, rfl, ?_⟩
  cases e : isSized 2 x with
  | false =>
    have e2 : isScoreForm x = false := by
      unfold isScoreForm
      split
      · exact absurd e (by simp [isSized])
      · rfl
    rw [e2] at hR
    exact hR
  | true =>
    obtain ⟨ds, rfl, hl⟩ := sized_of (n := 2) e
    obtain ⟨a, b, rfl⟩ : ∃ a b, ds = [a, b] := by
      match ds, hl with
      | [a, b], _ => exact ⟨a, b, rfl⟩
    refine ⟨rfl, a, rfl, ?_⟩
    cases e1 : isIndex a with
    | false =>
      have e2 : isScoreForm (.tuple [a, b]) = false := by
        unfold isScoreForm
        split
        · rename_i heq
          cases heq
          rw [e1]; rfl
        · rfl
      rw [e2] at hR
      exact hR
    | true =>
      refine fun f => ⟨rfl, b, f, _, rfl, ?_⟩
      cases b with
      | tuple ns =>
        refine .inl ⟨ns, isNote, rfl, fun d m K hK => hK, ?_⟩
        have e2 : isScoreForm (.tuple [a, .tuple ns]) = ns.all isNote := by
          show (isIndex a && ns.all isNote) = _
          rw [e1]; rfl
        rw [e2] at hR
        exact hR
      | _ => exact .inr ⟨rfl, hR⟩
theorem note_end {R : Val → Prop} {Ex : Xn → Prop} {t k a b c : Int} {ns : List Nt} (h : if -1 ≤ b ∧ b ≤ 599 then (if t < a + c then Ex (bsc k "length") else R (.d .none)) else Ex (bsc k "pitch")) :
    w_check_note_1 (endW R Ex) [some (.d (scoD t ns)), some (.d (.int k)), some (.d (.int a)), some (.d (.int b)), some (.d (.int c))] := by
  simp only [w_check_note_1, wSeq, wIfS, wSkip, wRet, wRetN, wRetL, wRaise0, wSetD, wSet, wAug, wAsg, wMt, wFor, wDo, wFrz, wBagSet, wBagAdd, wBagCell, wBag, wVar, wC, wOp, wNeg, wTv, wTnot, wTand, wTor, wAnd, wOr, wNot, wIf, wChain, wIsN, wIsi, wNil, wCons, wStar, wTup, wLst, wCB, wCall, wCallV, wCallL, wFnA, wHeard, wSl, wSo, wNo, wRng1, wRng2, wRng3, wIt, wItL, wItS, wLc, wYes, wSortedSet, bName, bTup, bCons, bNil, op1, op2i, bAbs, bMax2, bMin2, bInt, bSum, bRepr, opAdd, opSub, opMul, opMod, opFdiv, opPow, opCmp, opIsB, mAppend, mInsert, mExtend, keeps, toArgs, toArg, Val.rd, Val.kp, brw, slv, isNon, noFn, endW, wipeE, List.getElem?_cons_zero, List.getElem?_cons_succ, List.map_cons, List.map_nil, List.cons_append, List.nil_append, List.set_cons_zero, List.set_cons_succ, List.length_cons, List.length_nil, Bool.false_xor, Bool.true_xor, wEnum, wZip, bStr, wFmt, wJoined, wJcons, wJnil, wLR1, wTR3, wPm, pIndex, reads, tyD, opRepT, wLc2, wUnp, wUcons, wThaw, wThawT, wRev, wRaise2, wRaised, bBest, wSortedKeys, wIntE]
  by_cases h1 : -1 ≤ b
  · rw [decide_eq_true h1]
    show (if (!decide (b ≤ 599)) = true then _ else _)
    by_cases h2 : b ≤ 599
    · rw [if_neg (by simp [h2])]
      show (if decide (a + c > t) = true then _ else _)
      rw [if_pos ⟨h1, h2⟩] at h
      by_cases h3 : t < a + c
      · rw [if_pos h3] at h
        rw [if_pos (by simpa using h3)]
        exact h
      · rw [if_neg h3] at h
        rw [if_neg (by simpa using h3)]
        exact h
    · rw [if_pos (by simp [h2])]
      rw [if_neg fun z => h2 z.2] at h
      exact h
  · rw [decide_eq_false h1]
    rw [if_neg fun z => h1 z.1] at h
    exact h
theorem v_check_note : V_check_note := by
  intro ys R Ex hl ha h
  obtain ⟨t, ns, k, rfl, k0, k1, h⟩ := h
  have H : match nFault t ns k with
      | none => R (.d .none)
      | some w => Ex (bsc k w) := by
    rcases h with ⟨e, h⟩ | ⟨w, e, h⟩ <;> rw [e] <;> exact h
  clear h
  have at1 := atI_map (f := ntD) k0 k1
  show w_check_note (endW R Ex) [some (.d (scoD t ns)), some (.d (.int k)), none, none, none]
  unfold w_check_note
  simp only [wSeq, wIfS, wSkip, wRet, wRetN, wRetL, wRaise0, wSetD, wSet, wAug, wAsg, wMt, wFor, wDo, wFrz, wBagSet, wBagAdd, wBagCell, wBag, wVar, wC, wOp, wNeg, wTv, wTnot, wTand, wTor, wAnd, wOr, wNot, wIf, wChain, wIsN, wIsi, wNil, wCons, wStar, wTup, wLst, wCB, wCall, wCallV, wCallL, wFnA, wHeard, wSl, wSo, wNo, wRng1, wRng2, wRng3, wIt, wItL, wItS, wLc, wYes, wSortedSet, bName, bTup, bCons, bNil, op1, op2i, bAbs, bMax2, bMin2, bInt, bSum, bRepr, opAdd, opSub, opMul, opMod, opFdiv, opPow, opCmp, opIsB, mAppend, mInsert, mExtend, keeps, toArgs, toArg, Val.rd, Val.kp, brw, slv, isNon, noFn, endW, wipeE, List.getElem?_cons_zero, List.getElem?_cons_succ, List.map_cons, List.map_nil, List.cons_append, List.nil_append, List.set_cons_zero, List.set_cons_succ, List.length_cons, List.length_nil, Bool.false_xor, Bool.true_xor, wEnum, wZip, bStr, wFmt, wJoined, wJcons, wJnil, wLR1, wTR3, wPm, pIndex, reads, tyD, opRepT, wLc2, wUnp, wUcons, wThaw, wThawT, wRev, wRaise2, wRaised, bBest, wSortedKeys, wIntE]
  refine ix_tup (d := .tuple (ns.map ntD)) rfl ?_
  refine ix_tup at1 ?_
  unfold nFault at H
  generalize en : ns.getD k.toNat default = n at H at1 ⊢
  obtain ⟨a, b, c⟩ := n
  have fin : ¬ (0 < k ∧ ltN (ns.getD (k - 1).toNat default) (a, b, c) = false) → w_check_note_1 (endW R Ex) [some (.d (scoD t ns)), some (.d (.int k)), some (.d (.int a)), some (.d (.int b)), some (.d (.int c))] := fun hn => by
    rw [if_neg hn] at H
    refine note_end ?_
    by_cases h1 : -1 ≤ b ∧ b ≤ 599
    · rw [if_pos h1]
      rw [if_neg (fun z => z h1)] at H
      by_cases h2 : t < a + c
      · rw [if_pos h2]; rw [if_pos h2] at H; exact H
      · rw [if_neg h2]; rw [if_neg h2] at H; exact H
    · rw [if_neg h1]
      rw [if_pos h1] at H
      exact H
  refine ⟨rfl, ?_⟩
  unfold w_check_note_2
  show if decide (k > 0) = true then _ else _
  by_cases hk : 0 < k
  · rw [if_pos (decide_eq_true hk)]
    simp only [wSeq, wIfS, wSkip, wRet, wRetN, wRetL, wRaise0, wSetD, wSet, wAug, wAsg, wMt, wFor, wDo, wFrz, wBagSet, wBagAdd, wBagCell, wBag, wVar, wC, wOp, wNeg, wTv, wTnot, wTand, wTor, wAnd, wOr, wNot, wIf, wChain, wIsN, wIsi, wNil, wCons, wStar, wTup, wLst, wCB, wCall, wCallV, wCallL, wFnA, wHeard, wSl, wSo, wNo, wRng1, wRng2, wRng3, wIt, wItL, wItS, wLc, wYes, wSortedSet, bName, bTup, bCons, bNil, op1, op2i, bAbs, bMax2, bMin2, bInt, bSum, bRepr, opAdd, opSub, opMul, opMod, opFdiv, opPow, opCmp, opIsB, mAppend, mInsert, mExtend, keeps, toArgs, toArg, Val.rd, Val.kp, brw, slv, isNon, noFn, endW, wipeE, List.getElem?_cons_zero, List.getElem?_cons_succ, List.map_cons, List.map_nil, List.cons_append, List.nil_append, List.set_cons_zero, List.set_cons_succ, List.length_cons, List.length_nil, Bool.false_xor, Bool.true_xor, wEnum, wZip, bStr, wFmt, wJoined, wJcons, wJnil, wLR1, wTR3, wPm, pIndex, reads, tyD, opRepT, wLc2, wUnp, wUcons, wThaw, wThawT, wRev, wRaise2, wRaised, bBest, wSortedKeys, wIntE]
    refine ix_tup (d := .tuple (ns.map ntD)) rfl ?_
    refine ix_tup at1 ?_
    refine ix_tup (d := .tuple (ns.map ntD)) rfl ?_
    have at2 := atI_map (f := ntD) (l := ns) (j := k - 1) (by omega) (by omega)
    refine ix_tup at2 ?_
    refine ⟨⟨rfl, by unfold ntD; simp, by rw [depth_nt, depth_nt]; decide⟩, ?_⟩
    show (if (!PySem.W.dataLt (ntD (ns.getD (k - 1).toNat default)) (ntD (a, b, c))) = true then _ else _)
    rw [dataLt_nt]
    cases e : ltN (ns.getD (k - 1).toNat default) (a, b, c) with
    | true =>
      refine fin fun z => ?_
      rw [e] at z
      cases z.2
    | false =>
      rw [if_pos ⟨hk, e⟩] at H
      exact H
  · rw [if_neg (by simpa using hk)]
    exact fin fun z => hk z.1
theorem v_checked_score : V_checked_score := by
  intro ys R Ex hl ha h
  obtain ⟨x, rfl, h⟩ := h
  have H : match sFault x with
      | none => R (.d x)
      | some e => Ex e := by
    rcases h with ⟨e, h⟩ | ⟨w, e, h⟩ <;> rw [e] <;> exact h
  clear h
  refine ⟨rfl, x, rfl, ?_⟩
  cases e : isScoreForm x with
  | false =>
    unfold sFault at H
    rw [if_neg (by rw [e]; decide)] at H
    exact H
  | true =>
    obtain ⟨t, ns, rfl, t0, hn⟩ := form_of e
    rw [sFault_sco e] at H
    show if decide (t < 1) = true then _ else _
    unfold sFault' at H
    by_cases h1 : t < 1
    · rw [if_pos (decide_eq_true h1)]
      rw [if_pos h1] at H
      exact H
    rw [if_neg (by simpa using h1)]
    rw [if_neg h1] at H
    show if decide (t > 64) = true then _ else _
    by_cases h2 : 64 < t
    · rw [if_pos (decide_eq_true h2)]
      rw [if_pos h2] at H
      exact H
    rw [if_neg (by simpa using h2)]
    rw [if_neg h2] at H
    show if decide (((ns.map ntD).length : Int) > 120) = true then _ else _
    rw [List.length_map]
    by_cases h3 : 120 < ns.length
    · rw [if_pos (decide_eq_true (by omega))]
      rw [if_pos h3] at H
      exact H
    rw [if_neg (by simp; omega)]
    rw [if_neg h3] at H
    refine ⟨?_, ?_, ?_⟩
    · show rgOk (((ns.map ntD).length : Nat) : Int)
      rw [List.length_map]
      exact ⟨by omega, by omega⟩
    · show (((ns.map ntD).length : Nat) : Int).toNat ≤ sizeLine
      rw [List.length_map]
      exact szl (by omega)
    show forW _ _ _ (countD 0 (((ns.map ntD).length : Nat) : Int).toNat) _
    rw [List.length_map, count_upto]
    unfold firstFault at H
    have sub : ∀ k ∈ upto (ns.length : Int), 0 ≤ k ∧ k < ns.length := fun k m => mem_count m
    generalize upto (ns.length : Int) = l at H sub
    suffices g : ∀ (l : List Int), (∀ k ∈ l, 0 ≤ k ∧ k < ns.length) → (match l.findSome? fun k => (nFault t ns k).map (bsc k) with
      | none => R (.d (scoD t ns))
      | some e => Ex e) → ∀ o, forW (bName 1) (wDo (wCall 2 Φ_check_note (wCons (wVar 0) (wCons (wVar 1) wNil)))) { endW R Ex with nx := wRet (wVar 0) (endW R Ex) } (l.map .int) [some (.d (scoD t ns)), o] from g l sub H none
    intro l
    induction l with
    | nil => exact fun _ h o => h
    | cons k l ih =>
      intro sub h o
      obtain ⟨k0, k1⟩ := sub k List.mem_cons_self
      refine ⟨rfl, t, ns, k, rfl, k0, k1, ?_⟩
      rw [List.findSome?_cons] at h
      cases e : nFault t ns k with
      | none =>
        rw [e] at h
        exact .inl ⟨rfl, ih (fun j m => sub j (List.mem_cons_of_mem _ m)) h _⟩
      | some w =>
        rw [e] at h
        exact .inr ⟨w, rfl, h⟩
theorem v_last_tick : V_last_tick := by
  intro ys R Ex hl ha h
  obtain ⟨n, rfl, hR⟩ := h
  exact hR
theorem v_rings_at : V_rings_at := by
  intro ys R Ex hl ha h
  obtain ⟨t, ns, k, rfl, hR⟩ := h
  show lcW _ _ _ _ _ (enumD (ns.map ntD)) []
  rw [enum_upto]
  refine lcW_fm (fun i => .tuple [.int i, ntD (ns.getD i.toNat default)]) (fun i => .int i) (fun i => decide ((ntAt ns i).1 ≤ k) && decide (k ≤ lastN (ntAt ns i))) (fun i mi K acc hk => ?_) hR
  refine ⟨rfl, tv_chain_le (a := (ntAt ns i).1) (b := k) (c := lastN (ntAt ns i)) (fun Q E q => q) (fun Q E q => q) (fun Q E q => ⟨rfl, ntAt ns i, rfl, q⟩) ?_⟩
  cases e : (decide ((ntAt ns i).1 ≤ k) && decide (k ≤ lastN (ntAt ns i))) with
  | true => rw [e] at hk; exact hk
  | false => rw [e] at hk; exact hk
theorem v_begins_at : V_begins_at := by
  intro ys R Ex hl ha h
  obtain ⟨t, ns, k, rfl, hR⟩ := h
  show lcW _ _ _ _ _ (enumD (ns.map ntD)) []
  rw [enum_upto]
  refine lcW_fm (fun i => .tuple [.int i, ntD (ns.getD i.toNat default)]) (fun i => .int i) (fun i => decide ((ntAt ns i).1 = k)) (fun i mi K acc hk => ?_) hR
  refine ⟨rfl, int_dp _ _, ?_⟩
  show (if PyData.eqv (.int (ntAt ns i).1) (.int k) = true then _ else _)
  rw [eqv_ints]
  cases e : decide ((ntAt ns i).1 = k) with
  | true => rw [e] at hk; exact hk
  | false => rw [e] at hk; exact hk
theorem v_pitches_at : V_pitches_at := by
  intro ys R Ex hl ha h
  obtain ⟨t, ns, k, rfl, hz, hR⟩ := h
  refine ⟨rfl, t, ns, k, rfl, ?_⟩
  show lcW _ _ _ _ _ ((ringsI ns k).map .int) []
  refine lcW_mapf PyData.int (fun i => .int (ntAt ns i).2.1) (fun i mi K hk => ?_) ?_
  · have m := mem_count (List.mem_filter.mp mi).1
    have at1 := atI_map (f := ntD) m.1 m.2
    simp only [wSeq, wIfS, wSkip, wRet, wRetN, wRetL, wRaise0, wSetD, wSet, wAug, wAsg, wMt, wFor, wDo, wFrz, wBagSet, wBagAdd, wBagCell, wBag, wVar, wC, wOp, wNeg, wTv, wTnot, wTand, wTor, wAnd, wOr, wNot, wIf, wChain, wIsN, wIsi, wNil, wCons, wStar, wTup, wLst, wCB, wCall, wCallV, wCallL, wFnA, wHeard, wSl, wSo, wNo, wRng1, wRng2, wRng3, wIt, wItL, wItS, wLc, wYes, wSortedSet, bName, bTup, bCons, bNil, op1, op2i, bAbs, bMax2, bMin2, bInt, bSum, bRepr, opAdd, opSub, opMul, opMod, opFdiv, opPow, opCmp, opIsB, mAppend, mInsert, mExtend, keeps, toArgs, toArg, Val.rd, Val.kp, brw, slv, isNon, noFn, endW, wipeE, List.getElem?_cons_zero, List.getElem?_cons_succ, List.map_cons, List.map_nil, List.cons_append, List.nil_append, List.set_cons_zero, List.set_cons_succ, List.length_cons, List.length_nil, Bool.false_xor, Bool.true_xor, wEnum, wZip, bStr, wFmt, wJoined, wJcons, wJnil, wLR1, wTR3, wPm, pIndex, reads, tyD, opRepT, wLc2, wUnp, wUcons, wThaw, wThawT, wRev, wRaise2, wRaised, bBest, wSortedKeys, wIntE]
    refine ix_tup (d := .tuple (ns.map ntD)) rfl ?_
    refine ix_tup at1 ?_
    exact hk
  · refine ⟨by simpa using hz, fun ms out e p m => ?_⟩
    have e' : (pitchesI ns (ringsI ns k)).map PyData.int = ms.map .int := by
      unfold pitchesI
      rw [List.map_map, ← e, List.nil_append]
      rfl
    rw [← map_int_inj e'] at m
    rw [uniq_of p m] at hR
    exact hR
theorem v_raised : V_raised := by
  intro ys R Ex hl ha h
  obtain ⟨t, ns, x, rfl, h⟩ := h
  refine ⟨rfl, x, rfl, ?_⟩
  rcases h with ⟨e, hE⟩ | ⟨s, rfl, hc⟩
  · rw [e]
    exact hE
  · show lcW _ _ _ _ _ (ns.map ntD) []
    refine lcW_mapf ntD (fun n => ntD (upN s n)) (fun n mn K hk => ⟨rfl, szr, hk⟩) ?_
    refine ⟨szr, ?_⟩
    exact ⟨rfl, scoD t (ns.map (upN s)), by rw [sco_map]; rfl, hc⟩
theorem v_from_tick : V_from_tick := by
  intro ys R Ex hl ha h
  obtain ⟨t, ns, x, rfl, h⟩ := h
  refine ⟨rfl, x, rfl, ?_⟩
  rcases h with ⟨k, rfl, k0, k1, hR⟩ | ⟨e, hE⟩
  · rw [isIndex_int k0]
    show (if decide (k ≥ t) = true then _ else _)
    rw [if_neg (by simpa using k1)]
    show lcW _ _ _ _ _ (ns.map ntD) []
    refine lcW_fm ntD (fun n => ntD (earlierN k n)) (fun n => decide (k ≤ n.1)) (fun n mn K acc hk => ?_) ?_
    · refine ⟨rfl, ?_⟩
      show (if decide (n.1 ≥ k) = true then _ else _)
      by_cases e : k ≤ n.1
      · rw [if_pos (decide_eq_true e)] at hk
        rw [if_pos (by simpa using e)]
        exact ⟨szr, hk⟩
      · rw [if_neg (by simpa using e)] at hk
        rw [if_neg (by simpa using e)]
        exact hk
    · refine ⟨szr, ?_⟩
      rw [sco_map] at hR
      exact hR
  · rcases inIx_false e with e | ⟨i, rfl, i0, i1⟩
    · rw [e]
      exact hE
    · rw [isIndex_int i0]
      show (if decide (i ≥ t) = true then _ else _)
      rw [if_pos (by simpa using i1)]
      exact hE
theorem keeps_ds : ∀ xs : List D, keeps (xs.map Val.d) = some xs
  | [] => rfl
  | x :: xs => by
    show (match (Val.d x).kp, keeps (xs.map Val.d) with
      | some d, some ds => some (d :: ds)
      | _, _ => none) = _
    rw [keeps_ds xs]
    rfl
theorem v_joined : V_joined := by
  intro ys R Ex hl ha h
  obtain ⟨t, ns, u, ms, rfl, hz, hc⟩ := h
  show lcW _ _ _ _ _ (ms.map ntD) []
  refine lcW_mapf ntD (fun n => ntD (laterN t n)) (fun n mn K hk => ⟨rfl, szr, hk⟩) ?_
  have e : scoD (t + u) (ns ++ ms.map (laterN t)) = .tuple [.int (t + u), .tuple (ns.map ntD ++ ms.map fun n => ntD (laterN t n))] := by
    unfold scoD
    rw [List.map_append, List.map_map]
    rfl
  show (match keeps ((ns.map ntD).map Val.d ++ (([] ++ ms.map fun n => ntD (laterN t n)).map Val.d ++ [])) with
    | some ds => _
    | none => False)
  rw [List.append_nil, List.nil_append, ← List.map_append, keeps_ds]
  refine ⟨szl (by rw [List.length_append, List.length_map, List.length_map]; omega), szr, ?_⟩
  exact ⟨rfl, scoD (t + u) (ns ++ ms.map (laterN t)), by rw [e], hc⟩
theorem in_nts (ns : List Nt) (n : Nt) : ((ns.map ntD).any fun y => PyData.eqv y (ntD n)) = decide (n ∈ ns) := by
  rw [Bool.eq_iff_iff, List.any_map, List.any_eq_true]
  simp only [Function.comp, eqv_nt, decide_eq_true_eq]
  exact ⟨fun ⟨a, m, e⟩ => e ▸ m, fun m => ⟨n, m, rfl⟩⟩
theorem v_with_note : V_with_note := by
  intro ys R Ex hl ha h
  obtain ⟨t, ns, x, rfl, hz, h⟩ := h
  refine ⟨rfl, x, rfl, ?_⟩
  have dp : ∀ d : D, min (PyData.depthAll (ns.map ntD)) d.depth ≤ 100 := fun d => Nat.le_trans (Nat.min_le_left _ _) (Nat.le_trans (depthAll_nts ns) (by decide))
  rcases h with ⟨n, rfl, hn, hm, hc⟩ | ⟨h, hE⟩
  · rw [hn]
    refine ⟨dp _, ?_⟩
    show (if (false ^^ (ns.map ntD).any fun y => PyData.eqv y (ntD n)) = true then _ else _)
    rw [in_nts, decide_eq_false hm]
    have e : ns.map ntD ++ [ntD n] = (ns ++ [n]).map ntD := by rw [List.map_append]; rfl
    rw [if_neg (by decide)]
    show (match keeps ((ns.map ntD).map Val.d ++ [Val.d (ntD n)]) with
      | some ds => _
      | none => False)
    rw [keeps_app]
    show (ns.map ntD ++ [ntD n]).length ≤ sizeLine ∧ (PySem.W.AllAlike (ns.map ntD ++ [ntD n]) ∧ PySem.W.Sortable (ns.map ntD ++ [ntD n]) ∧ ∀ d ∈ ns.map ntD ++ [ntD n], d.depth ≤ 100) ∧ 2 ≤ sizeLine ∧ _ = _ ∧ Φ_checked_score [.d (.tuple [.int t, .tuple (srt (ns.map ntD ++ [ntD n]))])] _ _
    rw [e]
    exact ⟨szl (by rw [List.length_map, List.length_append, List.length_singleton]; omega), alike_nts _, szr, rfl, _, rfl, hc⟩
  · cases hi : isNote x with
    | false => exact hE
    | true =>
      rcases h with h | ⟨n, mn, rfl⟩
      · rw [h] at hi; cases hi
      · refine ⟨dp _, ?_⟩
        show (if (false ^^ (ns.map ntD).any fun y => PyData.eqv y (ntD n)) = true then _ else _)
        rw [in_nts, decide_eq_true mn]
        exact hE
theorem v_without_note : V_without_note := by
  intro ys R Ex hl ha h
  obtain ⟨t, ns, x, rfl, hz, h⟩ := h
  refine ⟨rfl, x, rfl, ?_⟩
  rcases h with ⟨k, rfl, k0, k1, hR⟩ | ⟨e, hE⟩
  · rw [isIndex_int k0]
    show (if decide (k ≥ ((ns.map ntD).length : Int)) = true then _ else _)
    rw [List.length_map, if_neg (by simpa using k1)]
    show (cutG (ns.map ntD) none (some k)).length + (cutG (ns.map ntD) (some (k + 1)) none).length ≤ sizeLine ∧ 2 ≤ sizeLine ∧ R (.d (.tuple [.int t, .tuple (cutG (ns.map ntD) none (some k) ++ cutG (ns.map ntD) (some (k + 1)) none)]))
    rw [cut_to _ k0 (by rw [List.length_map]; omega), cut_from _ (by omega) (by rw [List.length_map]; omega), show (k + 1).toNat = k.toNat + 1 by omega]
    refine ⟨szl (by rw [List.length_take, List.length_drop, List.length_map]; omega), szr, ?_⟩
    unfold scoD at hR
    rw [List.map_append, List.map_take, List.map_drop] at hR
    exact hR
  · rcases inIx_false e with e | ⟨i, rfl, i0, i1⟩
    · rw [e]
      exact hE
    · rw [isIndex_int i0]
      show (if decide (i ≥ ((ns.map ntD).length : Int)) = true then _ else _)
      rw [List.length_map, if_pos (by simpa using i1)]
      exact hE
theorem upto_cons {n : Int} (h : 1 ≤ n) : ∃ r, upto n = 0 :: r := by
  unfold upto
  rw [show n.toNat = (n.toNat - 1) + 1 by omega, List.range_succ_eq_map]
  exact ⟨_, rfl⟩
theorem v_loudest : V_loudest := by
  intro ys R Ex hl ha h
  obtain ⟨t, ns, rfl, t0, t1, hR⟩ := h
  refine ⟨⟨by omega, by omega⟩, szl (by omega), ?_⟩
  show lcW _ _ _ _ _ (countD 0 t.toNat) []
  rw [count_upto]
  refine lcW_mapf PyData.int (fun k => prD (-((ringsI ns k).length : Int), k)) (fun k mk K hk => ?_) ?_
  · refine ⟨rfl, _, ns, k, rfl, ?_⟩
    show 2 ≤ sizeLine ∧ K (.tuple [.int (-((((ringsI ns k).map PyData.int).length : Nat) : Int)), .int k])
    rw [List.length_map]
    exact ⟨szr, hk⟩
  · obtain ⟨r, er⟩ := upto_cons t0
    have rows : ((upto t).map fun k => prD (-((ringsI ns k).length : Int), k)) = ((upto t).map fun k => (-((ringsI ns k).length : Int), k)).map prD := by rw [List.map_map]; rfl
    rw [List.nil_append, rows]
    generalize ep : ((upto t).map fun k => (-((ringsI ns k).length : Int), k)) = ps
    rw [er, List.map_cons] at ep
    subst ep
    generalize hx : (-((ringsI ns 0).length : Int), (0 : Int)) = x0
    generalize hxs : (r.map fun k => (-((ringsI ns k).length : Int), k)) = xs
    have al := alike_prs (x0 :: xs)
    refine ⟨⟨al.1, Nat.le_trans al.2 (by decide)⟩, ?_⟩
    show (match some (PySem.W.minD (prD x0) (xs.map prD)) with
      | some d => _
      | none => False)
    rw [minD_pr]
    have mem := minP_mem xs x0
    have le := minP_le xs x0
    generalize minP x0 xs = b at mem le
    have all : x0 :: xs = (upto t).map fun k => (-((ringsI ns k).length : Int), k) := by rw [er, List.map_cons, hx, hxs]
    rw [all] at mem le
    obtain ⟨k, mk, eb⟩ := List.mem_map.mp mem
    have k01 := mem_count mk
    obtain ⟨b1, b2⟩ := b
    simp only [Prod.mk.injEq] at eb
    obtain ⟨eb1, eb2⟩ := eb
    subst eb2
    have upm : ∀ j, 0 ≤ j → j < t → j ∈ upto t := fun j h0 h1 => by
      unfold upto
      exact List.mem_map.mpr ⟨j.toNat, List.mem_range.mpr (by omega), by omega⟩
    refine ⟨rfl, szr, hR (-b1) k ⟨k01.1, k01.2, by omega, fun j j0 j1 => ?_, fun j j0 j1 => ?_⟩⟩
    · have := le _ (List.mem_map.mpr ⟨j, upm j j0 j1, rfl⟩)
      rw [Bool.eq_false_iff] at this
      have : ¬ (-((ringsI ns j).length : Int) < b1) := fun z => this (ltP_iff.mpr (.inl z))
      omega
    · have := le _ (List.mem_map.mpr ⟨j, upm j j0 (by omega), rfl⟩)
      rw [Bool.eq_false_iff] at this
      have h1 : ¬ (-((ringsI ns j).length : Int) < b1) := fun z => this (ltP_iff.mpr (.inl z))
      have h2 : ¬ (-((ringsI ns j).length : Int) = b1) := fun z => this (ltP_iff.mpr (.inr ⟨z, j1⟩))
      omega
theorem v_span_of : V_span_of := by
  intro ys R Ex hl ha h
  obtain ⟨t, ns, rfl, hR⟩ := h
  show lcW _ _ _ _ _ (ns.map ntD) []
  refine lcW_mapf ntD (fun n => .int n.2.1) (fun n mn K hk => ⟨rfl, hk⟩) ?_
  refine ⟨Nat.zero_le _, Nat.le_trans (Nat.min_le_right _ _) (by decide), ?_⟩
  cases ns with
  | nil => exact hR
  | cons n ns =>
    have e : (ns.map fun n => PyData.int n.2.1) = (ns.map fun n => n.2.1).map PyData.int := by rw [List.map_map]; rfl
    have al := alike_is (n.2.1 :: ns.map fun n => n.2.1)
    rw [List.map_cons, ← e] at al
    refine ⟨al, al, szr, ?_⟩
    show R (.d (.tuple [PySem.W.minD (.int n.2.1) (ns.map fun n => PyData.int n.2.1), PySem.W.maxD (.int n.2.1) (ns.map fun n => PyData.int n.2.1)]))
    rw [e, PySem.W.minD_ints, PySem.W.maxD_ints]
    exact hR
theorem v__law_take : V__law_take := by
  intro ys R Ex hl ha h
  obtain ⟨m, rfl, h0, h1, hR⟩ := h
  have md : ∀ x : Int, R (.d (.int (x % m))) := fun x => hR _ (Int.emod_nonneg x (by omega)) (Int.emod_lt_of_pos x h0)
  have tail : ∀ a b : Option Val, w__law_take_7 (endW R Ex) [some .bag, some (.d (.int m)), a, b, none, none, none] := by
    intro a b
    refine ⟨rfl, fun z hz => ?_⟩
    refine ite2 (fun _ => ?_) (fun _ => ?_)
    · refine ⟨rfl, fun z hz => ⟨h0, ⟨rfl, rfl, fun z' hz' => ⟨⟨h0, h1⟩, ⟨?_, fun k => nomatch k⟩, md z⟩⟩⟩⟩
      exact Int.ediv_nonneg hz'.1 (by omega)
    · refine ⟨rfl, fun z hz => ⟨.inr ⟨by decide, by decide⟩, by decide, ?_⟩⟩
      have b1 : 0 ≤ (z + 1) * 39373 % 1000000007 := Int.emod_nonneg _ (by decide)
      have b2 : (z + 1) * 39373 % 1000000007 < 1000000007 := Int.emod_lt_of_pos _ (by decide)
      refine ⟨.inr ⟨by omega, by omega⟩, by decide, .inr ⟨by decide, by decide⟩, by decide, ?_⟩
      exact ⟨⟨by decide, by decide⟩, h0, md _⟩
  show w__law_take (endW R Ex) [some .bag, some (.d (.int m)), none, none, none, none, none]
  refine ⟨rfl, fun z hz => ⟨by simp [PyData.depth], ?_⟩⟩
  refine ite2 (fun _ => ?_) (fun _ => tail _ _)
  refine ⟨rfl, fun c hc => ?_⟩
  refine ⟨rfl, by decide, ?_⟩
  refine ⟨⟨by decide, by decide, by decide⟩, ?_⟩
  have tail2 : w__law_take_1 { (endW R Ex) with nx := fun ρ' => w__law_take_7 (endW R Ex) ρ' } [some .bag, some (.d (.int m)), some (.d (.int c)), none, none, none, none] := by
    refine ⟨rfl, fun z1 hz1 => ⟨.inr ⟨by decide, by decide⟩, (by decide : (0 : Int) < 2147483647), rfl, fun z2 hz2 => ⟨.inl ⟨by decide, by decide⟩, ?_⟩⟩⟩
    exact ⟨rfl, (by decide : (0 : Int) < 2147483647), ⟨Int.emod_nonneg _ (by decide), fun _ => Int.lt_trans (Int.emod_lt_of_pos _ (by decide : (0 : Int) < 2147483647)) (by decide)⟩, tail _ _⟩
  refine ite2 (fun _ => ?_) (fun _ => tail2)
  exact ⟨rfl, ⟨hc, fun k => nomatch k⟩, tail2⟩
theorem v__law_some : V__law_some := by
  intro ys R Ex hl ha h
  obtain ⟨xs, rfl, hne, hlen, hR⟩ := h
  show w__law_some (endW R Ex) [some .bag, some (.d (.list xs))]
  simp only [w__law_some, wSeq, wIfS, wSkip, wRet, wRetN, wRetL, wRaise0, wSetD, wSet, wAug, wAsg, wMt, wFor, wDo, wFrz, wBagSet, wBagAdd, wBagCell, wBag, wVar, wC, wOp, wNeg, wTv, wTnot, wTand, wTor, wAnd, wOr, wNot, wIf, wChain, wIsN, wIsi, wNil, wCons, wStar, wTup, wLst, wCB, wCall, wCallV, wCallL, wFnA, wHeard, wSl, wSo, wNo, wRng1, wRng2, wRng3, wIt, wItL, wItS, wLc, wYes, wSortedSet, bName, bTup, bCons, bNil, op1, op2i, bLen, bAbs, bMax2, bMin2, bInt, bTuple, bList, bAll, bAny, bSum, bRepr, opAdd, opSub, opMul, opMod, opFdiv, opPow, opCmp, opEq, opNe, opInB, opIsB, opIx, opSl, mAppend, mInsert, mExtend, keeps, toArgs, toArg, Val.rd, Val.kp, brw, slv, isNon, noFn, endW, wipeE, List.getElem?_cons_zero, List.getElem?_cons_succ, List.map_cons, List.map_nil, List.cons_append, List.nil_append, List.set_cons_zero, List.set_cons_succ, List.length_cons, List.length_nil, Bool.false_xor, Bool.true_xor, wEnum, wZip, bSorted, bStr, wFmt, wJoined, wJcons, wJnil, wLR1, wTR3, wPm, pIndex, reads, tyD, opRepT, wLc2, wUnp, wUcons, wThaw, wThawT, wRev, wRaise2, wRaised, opCmpD, bBest, wSortedKeys, wIntE, Φ__law_take]
  refine ⟨trivial, _, rfl, ?_, by omega, fun v h0 h1 => ?_⟩
  · have := List.length_pos_iff.mpr hne
    omega
  · have hv : v.toNat < xs.length := by omega
    have e : atI xs v = some xs[v.toNat] := by
      unfold atI ixN
      rw [if_pos h0, if_pos h1]
      simp [hv]
    simp only [e]
    exact hR _ (List.getElem_mem hv)
theorem v__law_mixed : V__law_mixed := by
  intro ys R Ex hl ha h
  obtain ⟨xs, rfl, hlen, hR⟩ := h
  refine ⟨Nat.zero_le _, ?_⟩
  show forW _ _ _ xs _
  refine forW_inv (fun ds ρ => ∃ zs o, ρ = [some .bag, some (.d (.list xs)), some (.own zs), o] ∧ (zs ++ ds).Perm xs) (fun d ds ρ K ⟨zs, o, e, hp⟩ hK => ?_) (fun ρ ⟨zs, o, e, hp⟩ => ?_) _ _ ⟨[], _, rfl, .refl _⟩
  · subst e
    rw [List.append_nil] at hp
    exact hR zs hp
  · subst e
    have hz := hp.length_eq
    rw [List.length_append, List.length_cons] at hz
    refine ⟨rfl, _, rfl, by show (0 : Int) < (zs.length : Int) + 1; omega, by show (zs.length : Int) + 1 < _; omega, fun v v0 v1 => ?_⟩
    have v1 : v < (zs.length : Int) + 1 := v1
    refine ⟨⟨by rw [sizeLine_eq]; omega, v0, by omega⟩, ?_⟩
    exact hK _ ⟨_, _, rfl, (insert_perm zs ds d v.toNat).trans hp⟩
theorem v__law_alike : V__law_alike := by
  intro ys R Ex hl ha h
  obtain ⟨a, rfl, ⟨n, k, hn, hk, s⟩, hR⟩ := h
  show w__law_alike (endW R Ex) [some (.d a), some (.d a)]
  simp only [w__law_alike, wSeq, wIfS, wSkip, wRet, wRetN, wRetL, wRaise0, wSetD, wSet, wAug, wAsg, wMt, wFor, wDo, wFrz, wBagSet, wBagAdd, wBagCell, wBag, wVar, wC, wOp, wNeg, wTv, wTnot, wTand, wTor, wAnd, wOr, wNot, wIf, wChain, wIsN, wIsi, wNil, wCons, wStar, wTup, wLst, wCB, wCall, wCallV, wCallL, wFnA, wHeard, wSl, wSo, wNo, wRng1, wRng2, wRng3, wIt, wItL, wItS, wLc, wYes, wSortedSet, bName, bTup, bCons, bNil, op1, op2i, bLen, bAbs, bMax2, bMin2, bInt, bTuple, bList, bAll, bAny, bSum, bRepr, opAdd, opSub, opMul, opMod, opFdiv, opPow, opCmp, opEq, opNe, opInB, opIsB, opIx, opSl, mAppend, mInsert, mExtend, keeps, toArgs, toArg, Val.rd, Val.kp, brw, slv, isNon, noFn, endW, wipeE, List.getElem?_cons_zero, List.getElem?_cons_succ, List.map_cons, List.map_nil, List.cons_append, List.nil_append, List.set_cons_zero, List.set_cons_succ, List.length_cons, List.length_nil, Bool.false_xor, Bool.true_xor, wEnum, wZip, bSorted, bStr, wFmt, wJoined, wJcons, wJnil, wLR1, wTR3, wPm, pIndex, reads, tyD, opRepT, wLc2, wUnp, wUcons, wThaw, wThawT, wRev, wRaise2, wRaised, opCmpD, bBest, wSortedKeys, wIntE]
  have h3 : a.depth ≤ 100 := by have := s.dp; omega
  refine ⟨s.sh, s.shown hn, h3, s.sh, s.shown hn, h3, ?_, ?_⟩
  · simp [PyData.depth]
  · simp only [PyData.eqv]
    simp [s.eqv]
    exact ⟨h3, hR⟩
set_option maxHeartbeats 4000000 in
theorem harp_end {R : Val → Prop} {Ex : Xn → Prop} {m s sz k : Int} {ns : List Str} {bs : List Int} (o8 o9 : Option Val) (hs : sz = 5 ∨ sz = 7 ∨ sz = 12) (hk0 : 2 ≤ k) (hkm : k ≤ m) (hm : m ≤ 5) (s0 : 1 ≤ s) (s1 : s ≤ 100) (hn : ns.length = k.toNat) (hb : bs.length = k.toNat)
    (hnd : ns.Nodup) (hnm : ∀ x ∈ ns, x ∈ nameS) (asc : bs.Pairwise (· < ·)) (rg : ∀ b ∈ bs, 0 ≤ b ∧ b < sz) (hR : ∀ h : Hrp, h.Drawn m s → R (.d h.d)) :
    w__law_harp_1 (endW R Ex) [some .bag, some (.d (.int m)), some (.d (.int s)), some (.d (.int sz)), some (.d (.int k)), some (.d (.list (ns.map .str))), some (.d (.list (bs.map .int))), none, o8, o9] := by
  show lcW _ _ _ _ _ (zipD (ns.map .str) (bs.map .int)) []
  refine lcW_inv (fun ds acc => ∃ (rows : List (Str × Int × Int)) (ns' : List Str) (bs' : List Int), ds = zipD (ns'.map .str) (bs'.map .int) ∧ acc = rows.map rowD ∧ rows.map (·.1) ++ ns' = ns ∧ rows.map (fun r => r.2.1) ++ bs' = bs ∧ ns'.length = bs'.length ∧ ∀ r ∈ rows, 0 ≤ r.2.2 ∧ r.2.2 ≤ 1) (fun d ds acc K ⟨rows, ns', bs', e, ea, e1, e2, hl, hf⟩ hK => ?_) (fun acc ⟨rows, ns', bs', e, ea, e1, e2, hl, hf⟩ => ?_) _ _ ⟨[], ns, bs, rfl, rfl, rfl, rfl, by omega, by simp⟩
  · subst ea
    cases ns' with
    | nil => cases e
    | cons n ns' =>
      cases bs' with
      | nil => cases hl
      | cons b bs' =>
        cases e
        refine ⟨rfl, ?_⟩
        refine ⟨rfl, 2, rfl, by decide, by decide, fun v v0 v1 => ?_⟩
        refine ⟨by rw [sizeLine_eq]; show 3 ≤ _; omega, ?_⟩
        refine hK _ ⟨rows ++ [(n, b, v)], ns', bs', rfl, by simp [rowD], by simp [← e1], by simp [← e2], by simpa using hl, fun r hr => ?_⟩
        rcases List.mem_append.mp hr with hr | hr
        · exact hf r hr
        · rw [List.mem_singleton.mp hr]
          exact ⟨v0, by show v ≤ 1; omega⟩
  · subst ea
    have en : ns' = [] := by
      cases ns' with
      | nil => rfl
      | cons n ns' =>
        cases bs' with
        | nil => cases hl
        | cons b bs' => cases e
    subst en
    have eb : bs' = [] := List.length_eq_zero_iff.mp hl.symm
    subst eb
    rw [List.append_nil] at e1 e2
    have rl : rows.length = k.toNat := by rw [← hn, ← e1, List.length_map]
    refine ⟨rfl, s, rfl, by omega, by omega, fun v v0 v1 => ?_⟩
    refine ⟨rfl, 3, rfl, by decide, by decide, fun u u0 u1 => ?_⟩
    refine ⟨rfl, 9, rfl, by decide, by decide, fun t t0 t1 => ?_⟩
    refine ⟨by rw [sizeLine_eq]; show 5 ≤ _; omega, ?_⟩
    refine hR ⟨sz, rows, 1 + v, 1 + u, t⟩ ⟨⟨by show 1 ≤ sz; omega, by show sz ≤ 1000; omega, by show 2 ≤ rows.length; omega, by show rows.length ≤ 12; omega, by show 1 ≤ 1 + v; omega, by show 1 + v ≤ 100; omega, fun r hr => ?_, hf, fun r hr => ?_⟩, by show sz ≤ 12; omega, by show (rows.length : Int) ≤ m; omega, by show 1 + v ≤ s; omega, ?_, fun r hr => ?_, by show (rows.map (·.1)).Nodup; rw [e1]; exact hnd, fun r hr => hnm _ (by rw [← e1]; exact List.mem_map_of_mem hr), by show 1 ≤ 1 + u; omega, by show 1 + u ≤ 3; omega, t0, by show t ≤ 8; omega⟩
    · have := rg r.2.1 (by rw [← e2]; exact List.mem_map_of_mem hr)
      omega
    · exact nameS_ok _ (hnm _ (by rw [← e1]; exact List.mem_map_of_mem hr))
    · show (rows.map fun r => r.2.1).Pairwise (· < ·)
      rw [e2]
      exact asc
    · exact (rg r.2.1 (by rw [← e2]; exact List.mem_map_of_mem hr)).2
theorem v__law_harp : V__law_harp := by
  intro ys R Ex hl ha h
  obtain ⟨m, s, rfl, m0, m1, s0, s1, hR⟩ := h
  refine ⟨by rw [sizeLine_eq]; show 3 ≤ _; omega, ?_⟩
  refine ⟨rfl, _, rfl, by simp, by show 3 < 1073741824; decide, fun x hx => ?_⟩
  obtain ⟨sz, rfl, hs⟩ : ∃ sz : Int, x = .int sz ∧ (sz = 5 ∨ sz = 7 ∨ sz = 12) := by
    simp only [List.mem_cons, List.not_mem_nil, or_false] at hx
    rcases hx with rfl | rfl | rfl
    · exact ⟨5, rfl, .inl rfl⟩
    · exact ⟨7, rfl, .inr (.inl rfl)⟩
    · exact ⟨12, rfl, .inr (.inr rfl)⟩
  refine ⟨rfl, m - 1, rfl, by omega, by omega, fun v v0 v1 => ?_⟩
  refine ⟨by rw [sizeLine_eq]; show 9 ≤ _; omega, ?_⟩
  refine ⟨rfl, nameS.map .str, rfl, by decide, fun zs hz => ?_⟩
  obtain ⟨ns, hp, rfl⟩ := perm_map hz nameS rfl
  have nl : ns.length = 9 := hp.length_eq
  have e1 : cutG (ns.map PyData.str) none (some (2 + v)) = (ns.take (2 + v).toNat).map .str := by
    rw [cut_to _ (by omega) (by rw [List.length_map, nl]; omega), List.map_take]
  show w__law_harp_2 (endW R Ex) [some .bag, some (.d (.int m)), some (.d (.int s)), some (.d (.int sz)), some (.d (.int (2 + v))), some (.d (.list (cutG (ns.map PyData.str) none (some (2 + v))))), none, none, none, none]
  rw [e1]
  refine ⟨?_, ?_⟩
  · exact RgOk.of_le (by omega) (by omega) (by omega) (by omega)
  refine ⟨rfl, countD 0 sz.toNat, rfl, by simp [countD]; omega, fun ws hw => ?_⟩
  rw [count_upto] at hw
  obtain ⟨bs, hq, rfl⟩ := perm_map hw (upto sz) rfl
  have bl : bs.length = sz.toNat := by rw [hq.length_eq, upto_len]
  have e2 : cutG (bs.map PyData.int) none (some (2 + v)) = (bs.take (2 + v).toNat).map .int := by
    rw [cut_to _ (by omega) (by rw [List.length_map, bl]; omega), List.map_take]
  show (PySem.W.AllAlike (cutG (bs.map PyData.int) none (some (2 + v))) ∧ PySem.W.Sortable (cutG (bs.map PyData.int) none (some (2 + v))) ∧ ∀ d ∈ cutG (bs.map PyData.int) none (some (2 + v)), d.depth ≤ 100) ∧ w__law_harp_1 (endW R Ex) [some .bag, some (.d (.int m)), some (.d (.int s)), some (.d (.int sz)), some (.d (.int (2 + v))), some (.d (.list ((ns.take (2 + v).toNat).map PyData.str))), some (.d (.list (srt (cutG (bs.map PyData.int) none (some (2 + v)))))), none, none, none]
  rw [e2]
  refine ⟨alike_ints _, ?_⟩
  rw [srt_ints]
  have nd : bs.Nodup := hq.nodup_iff.mpr (upto_nodup sz)
  refine harp_end none none hs (by omega) (by omega) m1 s0 s1 (by rw [List.length_take, nl]; omega) (by rw [List.length_mergeSort, List.length_take, bl]; omega) ((hp.nodup_iff.mpr (by decide +kernel)).sublist (List.take_sublist _ _)) (fun x hx => hp.mem_iff.mp (List.mem_of_mem_take hx)) (asc_ints (nd.sublist (List.take_sublist _ _))) (fun b hb => ?_) hR
  have := hq.mem_iff.mp (List.mem_of_mem_take ((List.mergeSort_perm _ _).mem_iff.mp hb))
  exact mem_count this
theorem v__law_letter : V__law_letter := by
  intro ys R Ex hl ha h
  obtain ⟨H, i, ok, rfl, h0, h1, hR⟩ := h
  have e : ((H.rows.map rowD).length : Int) = H.L := by rw [List.length_map]; rfl
  show 0 < ((H.rows.map rowD).length : Int) ∧ R (.d (.int (i % ((H.rows.map rowD).length : Int))))
  rw [e]
  exact ⟨by have := ok.L0; omega, hR⟩
theorem v__law_open : V__law_open := by
  intro ys R Ex hl ha h
  obtain ⟨H, i, ok, rfl, h0, h1, hR⟩ := h
  have e : ((H.rows.map rowD).length : Int) = H.L := by rw [List.length_map]; rfl
  have L0 := ok.L0
  have L1 := ok.L1
  have s0 := ok.sz0
  have s1 := ok.sz1
  show CDiv i ((H.rows.map rowD).length : Int) ∧ CMul H.sz (i / ((H.rows.map rowD).length : Int)) ∧ _
  rw [e]
  refine ⟨⟨by omega, by omega⟩, .inl ⟨by omega, by omega⟩, ?_⟩
  refine ⟨rfl, H, i, ok, rfl, h0, h1, ?_⟩
  exact ix_row (ok.md0 i) (ok.md1 i) hR
theorem v__law_pitch : V__law_pitch := by
  intro ys R Ex hl ha h
  obtain ⟨H, ps, i, ok, st, rfl, h0, h1, hR⟩ := h
  refine ⟨rfl, H, i, ok, rfl, h0, h1, ?_⟩
  refine ⟨rfl, H, i, ok, rfl, h0, h1, ?_⟩
  exact ix_set st (ok.md0 i) (ok.md1 i) hR
theorem v__law_setting : V__law_setting := by
  intro ys R Ex hl ha h
  obtain ⟨H, ok, rfl, hR⟩ := h
  show lcW _ _ _ _ _ (H.rows.map rowD) []
  refine lcW_inv (fun ds acc => ∃ ps : List Int, acc = ps.map .int ∧ ps.length + ds.length = H.rows.length ∧ ∀ p ∈ ps, -1 ≤ p ∧ p ≤ 1) (fun d ds acc K ⟨ps, e, hl, hp⟩ hK => ?_) (fun acc ⟨ps, e, hl, hp⟩ => ?_) _ _ ⟨[], rfl, by simp, by simp⟩
  · subst e
    refine ⟨rfl, 3, rfl, by decide, by decide, fun v v0 v1 => ?_⟩
    refine hK _ ⟨ps ++ [v - 1], by simp, by simp at hl ⊢; omega, fun p m => ?_⟩
    rcases List.mem_append.mp m with m | m
    · exact hp p m
    · rw [List.mem_singleton] at m
      omega
  · subst e
    exact hR ps ⟨by simpa using hl, hp⟩
theorem v__law_fits : V__law_fits := by
  intro ys R Ex hl ha h
  obtain ⟨H, c, l, rfl, hR⟩ := h
  show w__law_fits (endW R Ex) [some (.d H.d), some (.d (seqD c (l.map .int)))]
  simp only [w__law_fits, wSeq, wIfS, wSkip, wRet, wRetN, wRetL, wRaise0, wSetD, wSet, wAug, wAsg, wMt, wFor, wDo, wFrz, wBagSet, wBagAdd, wBagCell, wBag, wVar, wC, wOp, wNeg, wTv, wTnot, wTand, wTor, wAnd, wOr, wNot, wIf, wChain, wIsN, wIsi, wNil, wCons, wStar, wTup, wLst, wCB, wCall, wCallV, wCallL, wFnA, wHeard, wSl, wSo, wNo, wRng1, wRng2, wRng3, wIt, wItL, wItS, wLc, wYes, wSortedSet, bName, bTup, bCons, bNil, op1, op2i, bAbs, bMax2, bMin2, bInt, bSum, bRepr, opAdd, opSub, opMul, opMod, opFdiv, opPow, opCmp, opIsB, mAppend, mInsert, mExtend, keeps, toArgs, toArg, Val.rd, Val.kp, brw, slv, isNon, noFn, endW, wipeE, List.getElem?_cons_zero, List.getElem?_cons_succ, List.map_cons, List.map_nil, List.cons_append, List.nil_append, List.set_cons_zero, List.set_cons_succ, List.length_cons, List.length_nil, Bool.false_xor, Bool.true_xor, wEnum, wZip, bStr, wFmt, wJoined, wJcons, wJnil, wLR1, wTR3, wPm, pIndex, reads, tyD, opRepT, wLc2, wUnp, wUcons, wThaw, wThawT, wRev, wRaise2, wRaised, bBest, wSortedKeys, wIntE]
  refine seqD_len c l _ ?_
  show if decide ((l.length : Int) ≤ H.a) = true then _ else _
  have hf : fits H l = (decide ((l.length : Int) ≤ H.a) && (l.isEmpty || decide (l.getLast?.getD 0 - l.head?.getD 0 ≤ H.b))) := rfl
  cases e : decide ((l.length : Int) ≤ H.a) with
  | false =>
    rw [hf, e] at hR
    rw [if_neg (by decide)]
    exact hR
  | true =>
    rw [if_pos rfl]
    refine seqD_len c l _ ?_
    rw [hf, e] at hR
    refine ⟨by simp [PyData.depth], ?_⟩
    rw [eqv_ints]
    cases l with
    | nil => exact hR
    | cons a r =>
      have e0 : decide (((a :: r).length : Int) = 0) = false := by simp; omega
      rw [e0]
      show (if false = true then _ else _)
      rw [if_neg (by decide)]
      refine ix_seq (at_last a r) ?_
      show opIx _ _ _
      refine ix_seq (at_first a r) ?_
      exact hR
theorem v__law_left_many : V__law_left_many := by
  intro ys R Ex hl ha h
  obtain ⟨H, c, l, rfl, hz, hR⟩ := h
  have start : rgOk ((l.length : Int) + 1) ∧ ((l.length : Int) + 1).toNat ≤ sizeLine := ⟨⟨by omega, by omega⟩, by rw [sizeLine_eq]; omega⟩
  have call : ∀ (lo hi : Option Int) (P : Val → Prop) (Ex : Xn → Prop), P (.d (.bool (fits H (cutG l lo hi)))) → opSl (.d (seqD c (l.map .int))) lo hi (fun y => match toArgs [.d H.d, y] with
      | some as => as.length = 2 ∧ Φ__law_fits as P Ex
      | none => False) := by
    intro lo hi P Ex hP
    refine cut_seq c l lo hi _ fun y hy => ?_
    have e : toArgs [.d H.d, y] = some [.d H.d, .d (seqD c ((cutG l lo hi).map .int))] := by
      unfold toArgs
      simp only [toArg]
      unfold toArgs
      rw [hy]
      rfl
    rw [e]
    exact ⟨rfl, H, c, _, rfl, hP⟩
  suffices g : ∀ (P : List D → Prop), P (((upto (l.length + 1)).filter fun m => fits H (l.take m.toNat) && fits H (l.drop m.toNat)).map .int) →
      lcW (bName 3) (wTand (wTv (wCall 2 Φ__law_fits (wCons (wVar 0) (wCons (wSl (wVar 1) wNo (wSo (wVar 3))) wNil)))) (wTv (wCall 2 Φ__law_fits (wCons (wVar 0) (wCons (wSl (wVar 1) (wSo (wVar 3)) wNo) wNil))))) (wVar 3) [some (.d H.d), some (.d (seqD c (l.map .int))), none, none] P ((upto (l.length + 1)).map .int) [] by
    cases c
    all_goals
      show rgOk ((((l.map PyData.int).length : Nat) : Int) + 1) ∧ ((((l.map PyData.int).length : Nat) : Int) + 1).toNat ≤ sizeLine ∧ lcW _ _ _ _ _ (countD 0 ((((l.map PyData.int).length : Nat) : Int) + 1).toNat) []
      rw [List.length_map, count_upto]
      refine ⟨start.1, start.2, g _ ?_⟩
      unfold leftMany at hR
      generalize (upto (l.length + 1)).filter (fun m => fits H (l.take m.toNat) && fits H (l.drop m.toNat)) = fs at hR
      cases fs with
      | nil =>
        refine ⟨Nat.zero_le _, Nat.le_trans (Nat.min_le_right _ _) (by decide), ?_⟩
        exact hR
      | cons a r =>
        refine ⟨Nat.zero_le _, Nat.le_trans (Nat.min_le_right _ _) (by decide), ?_⟩
        show (if (!PyData.eqv (.list ((a :: r).map .int)) (.list [])) = true then _ else _)
        rw [eqv_list_nil]
        show opIx (.d (.list ((a :: r).map .int))) (.d (.int 0)) (fun y => match y.kp with
          | some d => R (.d d)
          | none => False)
        exact ix_list (at_first a r) hR
  intro P hP
  refine lcW_fm (fun m : Int => .int m) (fun m => .int m) (fun m => fits H (l.take m.toNat) && fits H (l.drop m.toNat)) (fun m hm K acc hK => ?_) hP
  obtain ⟨m0, m1⟩ := mem_count hm
  refine call none (some m) _ _ ?_
  rw [cut_to _ m0 (by omega)]
  cases e : fits H (l.take m.toNat) with
  | false =>
    rw [e] at hK
    exact hK
  | true =>
    rw [e] at hK
    refine call (some m) none _ _ ?_
    rw [cut_from _ m0 (by omega)]
    cases e2 : fits H (l.drop m.toNat) with
    | false => rw [e2] at hK; exact hK
    | true => rw [e2] at hK; exact hK
theorem v__law_last : V__law_last := by
  intro ys R Ex hl ha h
  obtain ⟨n, rfl, hR⟩ := h
  exact hR
theorem v__law_moved : V__law_moved := by
  intro ys R Ex hl ha h
  obtain ⟨ps, l, w, rfl, h0, h1, hz, hR⟩ := h
  have e1 : atI (ps.map PyData.int) l = some (.int (ps.getD l.toNat 0)) := by
    rw [atI_map h0 h1]
    have h3 : l.toNat < ps.length := by omega
    simp [List.getD, h3]
  show w__law_moved (endW R Ex) [some (.d (.tuple (ps.map .int))), some (.d (.int l)), some (.d (.int w)), none]
  simp only [w__law_moved, wSeq, wIfS, wSkip, wRet, wRetN, wRetL, wRaise0, wSetD, wSet, wAug, wAsg, wMt, wFor, wDo, wFrz, wBagSet, wBagAdd, wBagCell, wBag, wVar, wC, wOp, wNeg, wTv, wTnot, wTand, wTor, wAnd, wOr, wNot, wIf, wChain, wIsN, wIsi, wNil, wCons, wStar, wTup, wLst, wCB, wCall, wCallV, wCallL, wFnA, wHeard, wSl, wSo, wNo, wRng1, wRng2, wRng3, wIt, wItL, wItS, wLc, wYes, wSortedSet, bName, bTup, bCons, bNil, op1, op2i, bAbs, bMax2, bMin2, bInt, bSum, bRepr, opAdd, opSub, opMul, opMod, opFdiv, opPow, opCmp, opIsB, mAppend, mInsert, mExtend, keeps, toArgs, toArg, Val.rd, Val.kp, brw, slv, isNon, noFn, endW, wipeE, List.getElem?_cons_zero, List.getElem?_cons_succ, List.map_cons, List.map_nil, List.cons_append, List.nil_append, List.set_cons_zero, List.set_cons_succ, List.length_cons, List.length_nil, Bool.false_xor, Bool.true_xor, wEnum, wZip, bStr, wFmt, wJoined, wJcons, wJnil, wLR1, wTR3, wPm, pIndex, reads, tyD, opRepT, wLc2, wUnp, wUcons, wThaw, wThawT, wRev, wRaise2, wRaised, bBest, wSortedKeys, wIntE]
  refine ix_tup e1 ?_
  have e2 : ∀ lo hi, cutG (ps.map PyData.int) lo hi = (cutG ps lo hi).map .int := fun lo hi => by
    unfold cutG
    simp [List.map_drop, List.map_take]
  show ((1 : Nat) ≤ sizeLine ∧ (cutG (ps.map PyData.int) none (some l)).length + 1 ≤ sizeLine ∧ ((cutG (ps.map PyData.int) none (some l) ++ [PyData.int (cl3 (ps.getD l.toNat 0 + w))]).length + (cutG (ps.map PyData.int) (some (l + 1)) none).length ≤ sizeLine ∧ R (.d (.tuple (cutG (ps.map PyData.int) none (some l) ++ [PyData.int (cl3 (ps.getD l.toNat 0 + w))] ++ cutG (ps.map PyData.int) (some (l + 1)) none)))))
  rw [e2, e2, cut_to _ h0 (by omega), cut_from _ (by omega) (by omega)]
  have e3 : (l + 1).toNat = l.toNat + 1 := by omega
  rw [e3]
  have hR' : R (.d (.tuple ((ps.take l.toNat).map PyData.int ++ [PyData.int (cl3 (ps.getD l.toNat 0 + w))] ++ (ps.drop (l.toNat + 1)).map PyData.int))) := by
    have e4 : (movedL ps l w).map PyData.int = (ps.take l.toNat).map PyData.int ++ [PyData.int (cl3 (ps.getD l.toNat 0 + w))] ++ (ps.drop (l.toNat + 1)).map PyData.int := by
      unfold movedL
      simp
    rw [← e4]
    exact hR
  refine ⟨by rw [sizeLine_eq]; omega, by rw [sizeLine_eq]; simp; omega, by rw [sizeLine_eq]; simp; omega, hR'⟩
abbrev wb_turn : WS := (wSeq (wAsg (bTup (bCons (bName 12) (bCons (bName 13) bNil))) (wTup (wCons (wCall 2 Φ__law_take (wCons (wVar 0) (wCons (wOp opIx (wVar 1) (wC (.int 2))) wNil))) (wCons (wOp opAdd (wC (.int 1)) (wCall 2 Φ__law_take (wCons (wVar 0) (wCons (wCB bMin2 (wCons (wC (.int 3)) (wCons (wOp opSub (wVar 4) (wVar 9)) wNil))) wNil)))) wNil)))) w__law_drawn_part_2)
abbrev wb_foot : WS := (wSeq (wSet 20 (wLst wNil)) w__law_drawn_part_4)
abbrev wb_lap : WS := (wMt 20 mExtend (wCons (wLc (wIt (wTup (wCons (wNeg (wC (.int 1))) (wCons (wC (.int 1)) wNil)))) (bName 23) (wTand (wTv (wOp opEq (wOp opIx (wVar 22) (wC (.int 2))) (wVar 19))) (wTand (wTv (wOp opNin (wVar 21) (wVar 18))) (wTv (wOp opLe (wCB bAbs (wCons (wOp opAdd (wOp opIx (wVar 6) (wVar 21)) (wVar 23)) wNil)) (wC (.int 1)))))) (wTup (wCons (wVar 21) (wCons (wVar 23) wNil))) [23]) wNil))
abbrev wb_tick : WS := (wSeq (wSet 10 (wLst wNil)) w__law_drawn_part_6)
abbrev wb_rest : WS := (wIfS (wTand (wTv (wOp opNe (wVar 20) (wLst wNil))) (wTand (wTv (wOp opLt (wOp opAdd (wVar 9) (wC (.int 1))) (wVar 4))) (wTv (wOp opNe (wCall 2 Φ__law_take (wCons (wVar 0) (wCons (wC (.int 3)) wNil))) (wC (.int 0)))))) (wSeq (wAsg (bTup (bCons (bName 21) (bCons (bName 23) bNil))) (wThaw 20 (wCall 2 Φ__law_some (wCons (wVar 0) (wCons (wVar 20) wNil))))) w__law_drawn_part_3) wSkip)
abbrev wb_held : WS := (wSetD 18 (wThaw 7 (wLc (wItL (wVar 7)) (bTup (bCons (bName 14) (bCons (bName 12) bNil))) (wTv (wOp opGt (wCall 1 Φ__law_last (wCons (wVar 14) wNil)) (wVar 9))) (wCall 2 Φ__law_letter (wCons (wVar 1) (wCons (wVar 12) wNil))) [14, 12])))
abbrev dpE (H : Hrp) (m b t : Int) (first ps : List Int) (rows : List (Nt × Int)) (st : List Nt) (o : List O) : Ev := some .bag :: some (.d H.d) :: some (.d (.int m)) :: some (.d (.int b)) :: some (.d (.int t)) :: some (.d (.tuple (first.map .int))) :: some (.d (.tuple (ps.map .int))) :: some (.own (rows.map rowD2)) :: some (.own (st.map ntD)) :: o
theorem turn_last {E : En} {H : Hrp} {m b t k c d s : Int} {first ps : List Int} {rows : List (Nt × Int)} {st : List Nt} {n : Nt} {o11 o13 o15 o16 o17 o18 o19 o20 o21 o22 o23 : O} (ok : H.Ok) (k0 : 0 ≤ k) (h : DI H t (k + 1) k 0 c d ps rows st) (hc : c ≤ 900)
    (hn : n.1 = k) (l1 : 1 ≤ n.2.2) (l3 : n.2.2 ≤ 3) (le : n.1 + n.2.2 ≤ t) (p0 : -1 ≤ n.2.1) (p1 : n.2.1 ≤ 101001) (s0 : 0 ≤ s) (s1 : s < H.n)
    (hK : ∀ rows' o, o.length = 13 → DI H t (k + 1) k 0 (c + 1) d ps rows' st → E.nx (dpE H m b t first ps rows' st (some (.d (.int k)) :: some (.own ((strsAt rows' k).map .int)) :: o))) :
    w__law_drawn_part_1 E (dpE H m b t first ps rows st [some (.d (.int k)), some (.own ((strsAt rows k).map .int)), o11, some (.d (.int s)), o13, some (.d (ntD n)), o15, o16, o17, o18, o19, o20, o21, o22, o23]) := by
  have few := h.few
  have sl := strsAt_len rows k
  show lcW _ _ _ _ _ (rows.map rowD2) []
  refine lcW_fm rowD2 (fun _ => .int 1) (fun r => (decide (r.2 = s) && decide (k ≤ lastN r.1)) || decide (r.1 = n)) (fun r mr K acc hk => ?_) ?_
  · have rest : K (if decide (r.1 = n) = true then acc ++ [PyData.int 1] else acc) → (wTv (wOp opEq (wVar 16) (wVar 14))) [some .bag, some (.d H.d), some (.d (.int m)), some (.d (.int b)), some (.d (.int t)), some (.d (.tuple (first.map .int))), some (.d (.tuple (ps.map .int))), some (.d (.list (rows.map rowD2))), some (.own (st.map ntD)), some (.d (.int k)), some (.own ((strsAt rows k).map .int)), o11, some (.d (.int s)), o13, some (.d (ntD n)), o15, some (.d (ntD r.1)), some (.d (.int r.2)), o18, o19, o20, o21, o22, o23] (fun c => if c = true then K (acc ++ [.int 1]) else K acc) (fun _ => False) := fun hk => by
      refine ⟨by show min (ntD r.1).depth (ntD n).depth ≤ 100; rw [depth_nt, depth_nt]; decide, ?_⟩
      show (if PyData.eqv (ntD r.1) (ntD n) = true then _ else _)
      rw [eqv_nt]
      by_cases e : r.1 = n
      · rw [if_pos (decide_eq_true e)] at hk ⊢; exact hk
      · rw [if_neg (by simpa using e)] at hk ⊢; exact hk
    refine ⟨rfl, int_dp _ _, ?_⟩
    show (if PyData.eqv (.int r.2) (.int s) = true then _ else _)
    rw [eqv_ints]
    by_cases e : r.2 = s
    · rw [if_pos (decide_eq_true e)]
      refine ⟨rfl, r.1, rfl, ?_⟩
      show (if decide (lastN r.1 ≥ k) = true then _ else _)
      by_cases e2 : k ≤ lastN r.1
      · rw [if_pos (decide_eq_true e2)]
        rw [if_pos (by simp [e, e2])] at hk
        exact hk
      · rw [if_neg (by simpa using e2)]
        refine rest ?_
        simpa [e, e2] using hk
    · rw [if_neg (by simpa using e)]
      refine rest ?_
      simpa [e] using hk
  · rw [List.nil_append]
    generalize ef : List.filter _ rows = fl
    refine ⟨noLsts_map (fun _ => rfl) _, Nat.zero_le _, Nat.le_trans (Nat.min_le_right _ _) (by decide), ?_⟩
    show (if PyData.eqv (.list (fl.map fun _ => .int 1)) (.list []) = true then _ else _)
    rw [eqv_list_nil]
    have skip := h.grow (c' := c + 1) (d' := d) (by omega) (Int.le_refl _) (Int.le_refl _)
    cases fl with
    | cons a r =>
      rw [if_neg (by simp)]
      exact hK rows _ rfl skip
    | nil =>
      rw [if_pos (show (List.map (fun _ => PyData.int 1) ([] : List (Nt × Int))).isEmpty = true from rfl)]
      rw [List.filter_eq_nil_iff] at ef
      refine ⟨szr, ?_, ?_⟩
      · show ((strsAt rows k).map PyData.int).length + 1 ≤ sizeLine
        rw [List.length_map]
        exact szl (by omega)
      refine sorted_app ?_
      refine ⟨rfl, H, false, srtI (strsAt rows k ++ [s]), rfl, ?_, ?_⟩
      · unfold srtI
        rw [List.length_mergeSort, List.length_append, List.length_singleton]
        omega
      cases e : leftMany H (srtI (strsAt rows k ++ [s])) with
      | none => exact hK rows _ rfl skip
      | some i =>
        refine ⟨?_, ?_⟩
        · show ((strsAt rows k).map PyData.int).length < sizeLine
          rw [List.length_map]
          exact szl1 (by omega)
        refine ⟨szr, ?_, ?_⟩
        · show (rows.map rowD2).length < sizeLine
          rw [List.length_map]
          exact szl1 (by omega)
        have fr : ∀ r ∈ rows, (r.2 = s → ¬ k ≤ lastN r.1) ∧ r.1 ≠ n := fun r m => by
          have := ef r m
          simp at this
          exact ⟨fun z y => by have := this.1 z; omega, this.2⟩
        have q := hK (rows ++ [(n, s)]) [o11, some (.d (.int s)), o13, some (.d (ntD n)), some (.d (.bool true)), o16, o17, o18, o19, o20, o21, o22, o23] rfl (h.pluck hn k0 l1 l3 le p0 p1 s0 s1 (fun r m => (fr r m).2) (fun r m z => by have := (fr r m).1 z; omega) (by rw [e]; rfl))
        rw [strsAt_app, if_pos hn, List.map_append] at q
        unfold dpE at q
        rw [List.map_append] at q
        exact q
theorem turn_lap {E : En} {H : Hrp} {m b t k c d : Int} {first ps : List Int} {rows : List (Nt × Int)} {st : List Nt} {o11 o12 o13 o14 o15 o16 o17 o18 o19 o20 o21 o22 o23 : O} (ok : H.Ok) (k0 : 0 ≤ k) (kt : k < t) (h : DI H t (k + 1) k 0 c d ps rows st) (hc : c ≤ 900)
    (hK : ∀ rows' o, o.length = 13 → DI H t (k + 1) k 0 (c + 1) d ps rows' st → E.nx (dpE H m b t first ps rows' st (some (.d (.int k)) :: some (.own ((strsAt rows' k).map .int)) :: o))) :
    wb_turn E (dpE H m b t first ps rows st [some (.d (.int k)), some (.own ((strsAt rows k).map .int)), o11, o12, o13, o14, o15, o16, o17, o18, o19, o20, o21, o22, o23]) := by
  refine ⟨rfl, H.n, rfl, by have := ok.n0; omega, by have := ok.n1; omega, fun s s0 s1 => ?_⟩
  refine ⟨rfl, (if t - k < 3 then t - k else 3), rfl, by split <;> omega, by split <;> omega, fun v v0 v1 => ?_⟩
  have v1' : v < 3 ∧ v < t - k := by split at v1 <;> omega
  refine ⟨szr, rfl, ?_⟩
  refine ⟨rfl, H, ps, s, ok, h.set, rfl, s0, s1, ?_⟩
  refine ⟨szr, ?_⟩
  have p := pit_le ok h.set s0 s1
  exact turn_last (n := (k, H.pit ps s, 1 + v)) ok k0 h hc rfl (by show 1 ≤ 1 + v; omega) (by show 1 + v ≤ 3; omega) (by show k + (1 + v) ≤ t; omega) p.1 p.2 s0 s1 hK
theorem lap_ok {E : En} {H : Hrp} {m b t f i k : Int} {first ps : List Int} {rows : List (Nt × Int)} {st : List Nt} {som : List (Int × Int)} {hs : List D} {o10 o11 o12 o13 o14 o15 o16 o17 o23 : O} (sp : isSet H ps) (i0 : 0 ≤ i) (i1 : i < H.L) (hz : som.length ≤ 500)
    (hK : ∀ more : List (Int × Int), more.length ≤ 2 → (∀ x ∈ more, x.1 = i ∧ (H.row i).2.2 = f ∧ (x.2 = 1 ∨ x.2 = -1)) →
      E.nx (dpE H m b t first ps rows st [some (.d (.int k)), o10, o11, o12, o13, o14, o15, o16, o17, some (.d (.list hs)), some (.d (.int f)), some (.own ((som ++ more).map lwD)), some (.d (.int i)), some (.d (rowD (H.row i))), o23])) :
    wb_lap E (dpE H m b t first ps rows st [some (.d (.int k)), o10, o11, o12, o13, o14, o15, o16, o17, some (.d (.list hs)), some (.d (.int f)), some (.own (som.map lwD)), some (.d (.int i)), some (.d (rowD (H.row i))), o23]) := by
  refine ⟨szr, ?_⟩
  show lcW _ _ _ _ _ [.int (-1), .int 1] []
  refine lcW_inv (fun ds acc => ∃ more : List (Int × Int), acc = more.map lwD ∧ more.length + ds.length ≤ 2 ∧ (∀ d ∈ ds, d = .int 1 ∨ d = .int (-1)) ∧ ∀ x ∈ more, x.1 = i ∧ (H.row i).2.2 = f ∧ (x.2 = 1 ∨ x.2 = -1)) (fun d ds acc K ⟨more, ea, el, ed, em⟩ hk => ?_) (fun acc ⟨more, ea, el, ed, em⟩ => ?_) _ _ ⟨[], rfl, by simp, by simp, by simp⟩
  · subst ea
    obtain ⟨w, rfl, hw⟩ : ∃ w : Int, d = .int w ∧ (w = 1 ∨ w = -1) := by
      rcases ed d List.mem_cons_self with e | e
      · exact ⟨1, e, .inl rfl⟩
      · exact ⟨-1, e, .inr rfl⟩
    simp only [List.length_cons] at el
    have ed' : ∀ d ∈ ds, d = .int 1 ∨ d = .int (-1) := fun d m => ed d (List.mem_cons_of_mem _ m)
    have no : K (more.map lwD) := hk _ ⟨more, rfl, by omega, ed', em⟩
    refine ⟨int_dp _ _, ?_⟩
    show (if PyData.eqv (.int (H.row i).2.2) (.int f) = true then _ else _)
    rw [eqv_ints]
    by_cases e : (H.row i).2.2 = f
    · rw [if_pos (decide_eq_true e)]
      refine ⟨Nat.le_trans (Nat.min_le_right _ _) (Nat.zero_le 100), ?_⟩
      show (if (true ^^ hs.any fun y => PyData.eqv y (.int i)) = true then _ else _)
      cases hs.any fun y => PyData.eqv y (.int i) with
      | true => exact no
      | false =>
        rw [if_pos (show (true ^^ false) = true from rfl)]
        simp only [dpE, wSeq, wIfS, wSkip, wRet, wRetN, wRetL, wRaise0, wSetD, wSet, wAug, wAsg, wMt, wFor, wDo, wFrz, wBagSet, wBagAdd, wBagCell, wBag, wVar, wC, wOp, wNeg, wTv, wTnot, wTand, wTor, wAnd, wOr, wNot, wIf, wChain, wIsN, wIsi, wNil, wCons, wStar, wTup, wLst, wCB, wCall, wCallV, wCallL, wFnA, wHeard, wSl, wSo, wNo, wRng1, wRng2, wRng3, wIt, wItL, wItS, wLc, wYes, wSortedSet, bName, bTup, bCons, bNil, op1, op2i, bAbs, bMax2, bMin2, bInt, bSum, bRepr, opAdd, opSub, opMul, opMod, opFdiv, opPow, opCmp, opIsB, mAppend, mInsert, mExtend, keeps, toArgs, toArg, Val.rd, Val.kp, brw, slv, isNon, noFn, endW, wipeE, List.getElem?_cons_zero, List.getElem?_cons_succ, List.map_cons, List.map_nil, List.cons_append, List.nil_append, List.set_cons_zero, List.set_cons_succ, List.length_cons, List.length_nil, Bool.false_xor, Bool.true_xor, wEnum, wZip, bStr, wFmt, wJoined, wJcons, wJnil, wLR1, wTR3, wPm, pIndex, reads, tyD, opRepT, wLc2, wUnp, wUcons, wThaw, wThawT, wRev, wRaise2, wRaised, bBest, wSortedKeys, wIntE]
        refine ix_set sp i0 i1 ?_
        show (if decide ((if ps.getD i.toNat 0 + w < 0 then -(ps.getD i.toNat 0 + w) else ps.getD i.toNat 0 + w) ≤ 1) = true then _ else _)
        cases decide ((if ps.getD i.toNat 0 + w < 0 then -(ps.getD i.toNat 0 + w) else ps.getD i.toNat 0 + w) ≤ 1) with
        | false => exact no
        | true =>
          refine ⟨szr, ?_⟩
          refine hk _ ⟨more ++ [(i, w)], by simp [lwD], by rw [List.length_append, List.length_singleton]; omega, ed', fun x mx => ?_⟩
          rcases List.mem_append.mp mx with mx | mx
          · exact em x mx
          · rw [List.mem_singleton.mp mx]
            exact ⟨rfl, e, hw⟩
    · rw [if_neg (by simpa using e)]
      exact no
  · subst ea
    simp only [List.length_nil] at el
    refine ⟨?_, ?_⟩
    · show (som.map lwD).length + (more.map lwD).length ≤ sizeLine
      rw [List.length_map, List.length_map]
      exact szl (by omega)
    have q := hK more (by omega) em
    rw [List.map_append] at q
    exact q
theorem foot_lap {E : En} {H : Hrp} {m b t f k kt c d : Int} {first ps : List Int} {rows : List (Nt × Int)} {st : List Nt} {hs : List D} {o10 o11 o12 o13 o14 o15 o16 o17 o20 o21 o22 o23 : O} (ok : H.Ok) (k0 : 0 ≤ k) (h : DI H t kt k f c d ps rows st) (hd : d ≤ 900)
    (hK : ∀ ps' st' o20 o21 o22 o23, DI H t kt k (f + 1) c (d + 1) ps' rows st' → E.nx (dpE H m b t first ps' rows st' [some (.d (.int k)), o10, o11, o12, o13, o14, o15, o16, o17, some (.d (.list hs)), some (.d (.int f)), o20, o21, o22, o23])) :
    wb_foot E (dpE H m b t first ps rows st [some (.d (.int k)), o10, o11, o12, o13, o14, o15, o16, o17, some (.d (.list hs)), some (.d (.int f)), o20, o21, o22, o23]) := by
  refine ⟨Nat.zero_le _, ?_⟩
  show forW _ _ _ (enumD (H.rows.map rowD)) _
  rw [enum_rows]
  have L1 := ok.L1
  refine forW_inv (fun ds ρ => ∃ (som : List (Int × Int)) (is : List Int) (o21 o22 o23 : O), ds = is.map (fun i => .tuple [.int i, rowD (H.row i)]) ∧ (∀ i ∈ is, 0 ≤ i ∧ i < H.L) ∧ som.length + 2 * is.length ≤ 24 ∧ (∀ x ∈ som, 0 ≤ x.1 ∧ x.1 < H.L ∧ (H.row x.1).2.2 = f ∧ (x.2 = 1 ∨ x.2 = -1)) ∧
    ρ = dpE H m b t first ps rows st [some (.d (.int k)), o10, o11, o12, o13, o14, o15, o16, o17, some (.d (.list hs)), some (.d (.int f)), some (.own (som.map lwD)), o21, o22, o23]) (fun d ds ρ K ⟨som, is, o21, o22, o23, e1, e2, e3, e4, e5⟩ hk => ?_) (fun ρ ⟨som, is, o21, o22, o23, e1, e2, e3, e4, e5⟩ => ?_) _ _ ⟨[], upto H.L, _, _, _, rfl, fun i m => mem_count m, by rw [upto_len]; simp only [List.length_nil]; omega, by simp, rfl⟩
  · subst e5
    refine ⟨Nat.zero_le _, Nat.le_trans (Nat.min_le_right _ _) (by decide), ?_⟩
    show (if (!PyData.eqv (.list (som.map lwD)) (.list [])) = true then _ else _)
    rw [eqv_list_nil]
    cases som with
    | nil => exact hK _ _ _ _ _ _ h.skip
    | cons q0 qs =>
      rw [if_pos (by simp)]
      show (if decide (k + 1 < t) = true then _ else _)
      by_cases e : k + 1 < t
      · rw [if_pos (decide_eq_true e)]
        refine ⟨rfl, 3, rfl, by decide, by decide, fun v v0 v1 => ?_⟩
        refine ⟨int_dp _ _, ?_⟩
        show (if (!PyData.eqv (.int v) (.int 0)) = true then _ else _)
        rw [eqv_ints]
        by_cases ev : v = 0
        · rw [if_neg (by simp [ev])]
          exact hK _ _ _ _ _ _ h.skip
        rw [if_pos (by simp [ev])]
        refine ⟨rfl, (q0 :: qs).map lwD, rfl, by simp, by rw [List.length_map]; omega, fun x hx => ?_⟩
        obtain ⟨q, mq, rfl⟩ := List.mem_map.mp hx
        obtain ⟨a0, a1, a2, a3⟩ := e4 q mq
        refine ⟨rfl, rfl, ?_⟩
        have sf := h.stfew
        refine ⟨szr, ?_, ?_⟩
        · show (st.map ntD).length < sizeLine
          rw [List.length_map]
          exact szl1 (by omega)
        have pl := set_rows ok h.set
        refine ⟨rfl, ps, q.1, q.2, rfl, a0, by rw [h.set.1]; exact a1, by omega, ?_⟩
        have z := hK (movedL ps q.1 q.2) (st ++ [(k, q.1, q.2)]) (some (.own ((q0 :: qs).map lwD))) (some (.d (.int q.1))) o22 (some (.d (.int q.2))) (h.step ok k0 e a0 a1 a2 a3)
        unfold dpE at z
        rw [List.map_append] at z
        exact z
      · rw [if_neg (by simpa using e)]
        exact hK _ _ _ _ _ _ h.skip
  · subst e5
    cases is with
    | nil => cases e1
    | cons i is =>
      rw [List.map_cons] at e1
      cases e1
      simp only [List.length_cons] at e3
      obtain ⟨i0, i1⟩ := e2 i List.mem_cons_self
      refine ⟨rfl, lap_ok (som := som) h.set i0 i1 (by omega) fun more m2 hm => ?_⟩
      refine hk _ ⟨som ++ more, is, _, _, _, rfl, fun j m => e2 j (List.mem_cons_of_mem _ m), by rw [List.length_append]; omega, fun x mx => ?_, rfl⟩
      rcases List.mem_append.mp mx with mx | mx
      · exact e4 x mx
      · obtain ⟨q1, q2, q3⟩ := hm x mx
        rw [q1]
        exact ⟨i0, i1, q2, q3⟩
theorem tick_lap {E : En} {H : Hrp} {m b t k d : Int} {first ps : List Int} {rows : List (Nt × Int)} {st : List Nt} {o10 o11 o12 o13 o14 o15 o16 o17 o18 o19 o20 o21 o22 o23 : O} (ok : H.Ok) (k0 : 0 ≤ k) (kt : k < t) (b0 : 0 ≤ b) (b1 : b ≤ 10) (h : DI H t k k 0 (k * b) d ps rows st) (hc : k * b + b ≤ 900) (hd : d + 1 ≤ 900)
    (hK : ∀ ps' rows' st' o, o.length = 14 → DI H t (k + 1) (k + 1) 0 (k * b + b) (d + 2) ps' rows' st' → E.nx (dpE H m b t first ps' rows' st' (some (.d (.int k)) :: o))) :
    wb_tick E (dpE H m b t first ps rows st [some (.d (.int k)), o10, o11, o12, o13, o14, o15, o16, o17, o18, o19, o20, o21, o22, o23]) := by
  refine ⟨Nat.zero_le _, ?_⟩
  refine ⟨rfl, b + 1, rfl, by omega, by omega, fun v v0 v1 => ?_⟩
  refine ⟨⟨by omega, by omega⟩, szl (by omega), ?_⟩
  refine forW_inv (fun ds ρ => ∃ (c : Int) (rows : List (Nt × Int)) (o : List O), o.length = 13 ∧ DI H t (k + 1) k 0 c d ps rows st ∧ c + ds.length ≤ k * b + b ∧ (∀ d ∈ ds, ∃ i : Int, d = .int i) ∧ ρ = dpE H m b t first ps rows st (some (.d (.int k)) :: some (.own ((strsAt rows k).map .int)) :: o)) (fun d ds ρ K ⟨c, rows, o, ol, hh, hl, hi, e⟩ hk => ?_) (fun ρ ⟨c, rows, o, ol, hh, hl, hi, e⟩ => ?_) _ _
    ⟨k * b, rows, [o11, o12, o13, o14, o15, o16, o17, o18, o19, o20, o21, o22, o23], rfl, h.grow (Int.le_refl _) (Int.le_refl _) (by omega), by rw [countD_len]; omega, fun d m => ?_, by rw [h.none_at]; rfl⟩
  · subst e
    obtain ⟨p11, p12, p13, p14, p15, p16, p17, p18, p19, p20, p21, p22, p23, rfl⟩ := len13 ol
    simp only [List.length_nil] at hl
    show lcW _ _ _ _ _ (rows.map rowD2) []
    refine lcW_fm rowD2 (fun r => .int (r.2 % H.L)) (fun r => decide (k < lastN r.1)) (fun r mr K acc hk => ?_) ?_
    · have nt := hh.note r mr
      refine ⟨rfl, rfl, r.1, rfl, ?_⟩
      show (if decide (lastN r.1 > k) = true then _ else _)
      by_cases e : k < lastN r.1
      · rw [if_pos (decide_eq_true e)] at hk ⊢
        exact ⟨rfl, H, r.2, ok, rfl, by omega, by omega, hk⟩
      · rw [if_neg (by simpa using e)] at hk ⊢
        exact hk
    · refine ⟨noLsts_map (fun _ => rfl) _, ?_⟩
      refine ⟨szr, ?_⟩
      refine foot_lap (f := 0) ok k0 hh (by omega) fun ps1 st1 o20 o21 o22 o23 h1 => ?_
      refine foot_lap (f := 0 + 1) ok k0 h1 (by omega) fun ps2 st2 o20 o21 o22 o23 h2 => ?_
      exact hK ps2 rows st2 _ rfl (h2.next.grow (by omega) (by omega) (Int.le_refl _))
  · subst e
    obtain ⟨p11, p12, p13, p14, p15, p16, p17, p18, p19, p20, p21, p22, p23, rfl⟩ := len13 ol
    simp only [List.length_cons] at hl
    obtain ⟨i, rfl⟩ := hi d List.mem_cons_self
    exact turn_lap ok k0 kt hh (by omega) fun rows' o' l' h' => hk _ ⟨c + 1, rows', o', l', h', by omega, fun d m => hi d (List.mem_cons_of_mem _ m), rfl⟩
  · obtain ⟨i, _, rfl⟩ := List.mem_map.mp m
    exact ⟨_, rfl⟩
theorem part_end {H : Hrp} {m b t f k : Int} {first ps : List Int} {rows : List (Nt × Int)} {st : List Nt} {R : Val → Prop} {Ex : Xn → Prop} {o9 o10 o11 o12 o13 o14 o15 o16 o17 o18 o19 o20 o21 o22 o23 : O} (h : DI H t t k f (t * b) (2 * t) ps rows st) (e : k = t) (t0 : 1 ≤ t) (t1 : t ≤ m) (m1 : m ≤ 20) (b0 : 0 ≤ b) (b1 : b ≤ 10) (fs : isSet H first)
    (hR : ∀ t ns first ss st, DP H m b t ns first ss st → R (.d (.tuple [scoD t ns, partD first ss st]))) :
    w__law_drawn_part_7 (endW R Ex) (dpE H m b t first ps rows st [o9, o10, o11, o12, o13, o14, o15, o16, o17, o18, o19, o20, o21, o22, o23]) := by
  subst e
  obtain ⟨rs, rp, re, ra⟩ := srt_rows rows
  obtain ⟨ss, sp, se, sa⟩ := srt_nts st
  have dp := h.end_ t0 t1 b0 fs rp ra sp sa
  have g := hR _ _ _ _ _ dp
  refine ⟨alike_rows rows, ?_⟩
  rw [re]
  show lcW _ _ _ _ _ (rs.map rowD2) []
  refine lcW_mapf rowD2 (fun r => ntD r.1) (fun r mr K hk => ⟨rfl, hk⟩) ?_
  refine ⟨noLsts_map (fun _ => rfl) _, szr, ?_⟩
  show lcW _ _ _ _ _ (rs.map rowD2) []
  refine lcW_mapf rowD2 (fun r => .int r.2) (fun r mr K hk => ⟨rfl, hk⟩) ?_
  refine ⟨noLsts_map (fun _ => rfl) _, alike_nts st, ?_⟩
  show _ ∧ _ ∧ R (.d (.tuple [.tuple [.int k, .tuple ([] ++ rs.map fun r => ntD r.1)], .tuple [.tuple (first.map .int), .tuple ([] ++ rs.map fun r => PyData.int r.2), .tuple (srt (st.map ntD))]]))
  rw [se]
  refine ⟨szr, szr, ?_⟩
  rw [List.nil_append, List.nil_append]
  unfold scoD partD at g
  rw [List.map_map, List.map_map] at g
  exact g
theorem v__law_drawn_part : V__law_drawn_part := by
  intro ys R Ex hl ha h
  obtain ⟨H, m, b, ok, rfl, m0, m1, b0, b1, hR⟩ := h
  refine ⟨rfl, m, rfl, by omega, by omega, fun v v0 v1 => ?_⟩
  refine ⟨rfl, H, ok, rfl, fun first fs => ?_⟩
  refine ⟨rfl, Nat.zero_le _, rfl, Nat.zero_le _, rfl, rfl, ?_⟩
  refine ⟨⟨by omega, by omega⟩, szl (by omega), ?_⟩
  generalize et : 1 + v = t
  refine forW_inv (fun ds ρ => ∃ (k : Int) (ps : List Int) (rows : List (Nt × Int)) (st : List Nt) (o9 : O) (o : List O), ds = countD k (t - k).toNat ∧ 0 ≤ k ∧ k ≤ t ∧ o.length = 14 ∧ DI H t k k 0 (k * b) (2 * k) ps rows st ∧ ρ = dpE H m b t first ps rows st (o9 :: o)) (fun d ds ρ K ⟨k, ps, rows, st, o9, o, e, k0, kt, ol, h, er⟩ hk => ?_) (fun ρ ⟨k, ps, rows, st, o9, o, e, k0, kt, ol, h, er⟩ => ?_) _ _
    ⟨0, first, [], [], none, _, by rw [Int.sub_zero], Int.le_refl _, by omega, rfl, .start fs (by omega) (by omega), rfl⟩
  · subst er
    obtain ⟨p10, p11, p12, p13, p14, p15, p16, p17, p18, p19, p20, p21, p22, p23, rfl⟩ := len14 ol
    have ek : k = t := by
      rcases Int.lt_or_le k t with z | z
      · rw [show (t - k).toNat = (t - (k + 1)).toNat + 1 by omega, countD_cons] at e
        cases e
      · omega
    subst ek
    exact part_end h rfl (by omega) (by omega) m1 b0 b1 fs hR
  · subst er
    obtain ⟨p10, p11, p12, p13, p14, p15, p16, p17, p18, p19, p20, p21, p22, p23, rfl⟩ := len14 ol
    have kt' : k < t := by
      rcases Int.lt_or_le k t with z | z
      · exact z
      · rw [show (t - k).toNat = 0 by omega] at e
        cases e
    rw [show (t - k).toNat = (t - (k + 1)).toNat + 1 by omega, countD_cons] at e
    cases e
    have kb : k * b ≤ 20 * 10 := Int.mul_le_mul (by omega) b1 b0 (by decide)
    refine tick_lap ok k0 kt' b0 b1 h (by omega) (by omega) fun ps' rows' st' o' ol' h' => ?_
    refine hk _ ⟨k + 1, ps', rows', st', _, o', rfl, by omega, by omega, ol', ?_, rfl⟩
    rw [Int.add_mul, Int.one_mul]
    exact h'.grow (Int.le_refl _) (by omega) (Int.le_refl _)
theorem v__law_checked : V__law_checked := by
  intro ys R Ex hl ha h
  obtain ⟨t, ns, rfl, hR⟩ := h
  unfold chkD at hR
  show (if decide (t > 64) = true then _ else _)
  by_cases h1 : 64 < t
  · rw [if_pos (decide_eq_true h1)]
    rw [if_pos h1] at hR
    show (if decide (t > 64) = true then _ else _)
    rw [if_pos (decide_eq_true h1)]
    exact ⟨szr, hR⟩
  rw [if_neg (by simpa using h1)]
  rw [if_neg h1] at hR
  show (if decide (((ns.map ntD).length : Int) > 120) = true then _ else _)
  rw [List.length_map]
  by_cases h2 : 120 < ns.length
  · rw [if_pos (decide_eq_true (by omega))]
    rw [if_pos h2] at hR
    show (if decide (t > 64) = true then _ else _)
    rw [if_neg (by simpa using h1)]
    exact ⟨szr, hR⟩
  rw [if_neg (by simp; omega)]
  rw [if_neg h2] at hR
  show forW _ _ _ (enumD (ns.map ntD)) _
  rw [enum_upto]
  refine forW_some (p := cFault t ns) (Rt := fun d => R (.d d)) (fun ρ => ∃ o1 o2 o3 o4, ρ = [some (.d (scoD t ns)), o1, o2, o3, o4]) (fun k mk ρ K ⟨o1, o2, o3, o4, er⟩ hk => ?_) ?_ _ ⟨_, _, _, _, rfl⟩
  · revert hR
    cases (upto (ns.length : Int)).findSome? (cFault t ns) with
    | none =>
      intro hR ρ ⟨o1, o2, o3, o4, er⟩
      subst er
      exact ⟨szr, hR⟩
    | some d => exact fun z => z
  · subst er
    unfold cFault noteOk at hk
    show (bTup _) _ (.tuple [.int k, ntD (ntAt ns k)]) _
    generalize ntAt ns k = n at hk
    obtain ⟨a, b, c⟩ := n
    refine ⟨rfl, rfl, ?_⟩
    simp only at hk
    refine tv_chain_le (P := fun q => if (!q) = true then _ else _) (a := -1) (b := b) (c := 599) (fun Q E q => q) (fun Q E q => q) (fun Q E q => q) ?_
    by_cases h3 : -1 ≤ b ∧ b ≤ 599
    · rw [decide_eq_true h3.1, decide_eq_true h3.2]
      rw [decide_eq_true h3] at hk
      show (if decide (a + c > t) = true then _ else _)
      by_cases h4 : a + c ≤ t
      · rw [if_neg (by simpa using h4)]
        rw [decide_eq_true h4] at hk
        exact hk _ ⟨_, _, _, _, rfl⟩
      · rw [if_pos (by simpa using h4)]
        rw [decide_eq_false h4] at hk
        rw [if_pos h3] at hk
        simp only [wRet, wTup, wCons, wC, wIf, wNil]
        refine tv_chain_le (a := -1) (b := b) (c := 599) (fun Q E q => q) (fun Q E q => q) (fun Q E q => q) ?_
        rw [decide_eq_true h3.1, decide_eq_true h3.2]
        exact ⟨szr, hk⟩
    · have e : (decide (-1 ≤ b) && decide (b ≤ 599)) = false := by
        rw [← Bool.decide_and]
        exact decide_eq_false h3
      rw [e]
      rw [decide_eq_false h3, if_neg h3] at hk
      rw [if_pos (by decide)]
      dsimp only
      rw [if_pos rfl]
      simp only [wRet, wTup, wCons, wC, wIf, wNil]
      refine tv_chain_le (a := -1) (b := b) (c := 599) (fun Q E q => q) (fun Q E q => q) (fun Q E q => q) ?_
      rw [e]
      exact ⟨szr, hk⟩
end Pd

namespace Pd
open PySem PySem.Spec PyProof.Rows L2
theorem nodup_len : ∀ {a l : List Int}, a.Nodup → (∀ x ∈ a, x ∈ l) → a.length ≤ l.length
  | [], _, _, _ => Nat.zero_le _
  | x :: a, l, nd, h => by
    obtain ⟨n1, n2⟩ := List.nodup_cons.mp nd
    have hx := h x List.mem_cons_self
    have ih := nodup_len (a := a) (l := l.erase x) n2 fun y m => (List.mem_erase_of_ne (fun e => n1 (by rw [← e]; exact m))).mpr (h y (List.mem_cons_of_mem _ m))
    have := List.length_erase_of_mem hx
    have : 0 < l.length := List.length_pos_of_mem hx
    rw [List.length_cons]
    omega
theorem uniq_mem {l : List Int} {k : Int} (h : k ∈ uniq l) : k ∈ l := by
  unfold uniq at h
  split at h
  · rename_i q
    exact (q.choose_spec.2 k).mp h
  · cases h
theorem uniq_len (l : List Int) : (uniq l).length ≤ l.length := by
  refine nodup_len ?_ fun x m => uniq_mem m
  unfold uniq
  split
  · rename_i q
    exact q.choose_spec.1.imp fun {a b} z e => by omega
  · exact .nil
theorem rings_len (ns : List Nt) (k : Int) : (ringsI ns k).length ≤ ns.length := by
  have := List.length_filter_le (fun i => decide ((ntAt ns i).1 ≤ k) && decide (k ≤ lastN (ntAt ns i))) (upto (ns.length : Int))
  rw [upto_len] at this
  exact Nat.le_trans this (by omega)
theorem begins_len (ns : List Nt) (k : Int) : (beginsI ns k).length ≤ ns.length := by
  have := List.length_filter_le (fun i => decide ((ntAt ns i).1 = k)) (upto (ns.length : Int))
  rw [upto_len] at this
  exact Nat.le_trans this (by omega)
theorem findSome_par {α β γ : Type} {f : α → Option β} {g : α → Option γ} {R : β → γ → Prop} : ∀ {l : List α}, (∀ a ∈ l, (f a = none ∧ g a = none) ∨ ∃ b c, f a = some b ∧ g a = some c ∧ R b c) → (l.findSome? f = none ∧ l.findSome? g = none) ∨ ∃ b c, l.findSome? f = some b ∧ l.findSome? g = some c ∧ R b c
  | [], _ => .inl ⟨rfl, rfl⟩
  | a :: l, h => by
    rw [List.findSome?_cons, List.findSome?_cons]
    rcases h a List.mem_cons_self with ⟨e1, e2⟩ | ⟨b, c, e1, e2, r⟩
    · rw [e1, e2]
      exact findSome_par fun x m => h x (List.mem_cons_of_mem _ m)
    · rw [e1, e2]
      exact .inr ⟨b, c, rfl, rfl, r⟩
/-- a score whose notes are in order -/
structure Ordl (t : Int) (m : List Nt) : Prop where
  t1 : 1 ≤ t
  note : ∀ n ∈ m, 0 ≤ n.1 ∧ 1 ≤ n.2.2
  asc : m.Pairwise fun a b => ltN a b = true
theorem Ordl.form {t : Int} {m : List Nt} (h : Ordl t m) : isScoreForm (scoD t m) = true := by
  rw [form_sco, decide_eq_true (by have := h.t1; omega), Bool.true_and, List.all_eq_true]
  intro n mn
  have := h.note n mn
  rw [decide_eq_true this.1, decide_eq_true this.2]
  rfl
theorem ntAt_mem {m : List Nt} {k : Int} (h0 : 0 ≤ k) (h1 : k < m.length) : ∃ h : k.toNat < m.length, ntAt m k = m[k.toNat] := by
  have h3 : k.toNat < m.length := by omega
  exact ⟨h3, by simp [ntAt, List.getD, h3]⟩
theorem chk_link {t : Int} {m : List Nt} (h : Ordl t m) : (sFault (scoD t m) = none ∧ chkD t m = .tuple [.str "told", scoD t m]) ∨ ∃ e, sFault (scoD t m) = some e ∧ tells e [("BadScore", "score", ["number", "fault"]), ("Nothing", "nothing", []), ("TooLarge", "large", ["what", "limit"])] = some (chkD t m) := by
  rw [sFault_sco h.form]
  unfold sFault' chkD
  rw [if_neg (by have := h.t1; omega)]
  by_cases h2 : 64 < t
  · rw [if_pos h2, if_pos h2]
    exact .inr ⟨_, rfl, rfl⟩
  rw [if_neg h2, if_neg h2]
  by_cases h3 : 120 < m.length
  · rw [if_pos h3, if_pos h3]
    exact .inr ⟨_, rfl, rfl⟩
  rw [if_neg h3, if_neg h3]
  unfold firstFault
  have par := findSome_par (f := fun k => (nFault t m k).map (bsc k)) (g := cFault t m) (R := fun e d => tells e [("BadScore", "score", ["number", "fault"]), ("Nothing", "nothing", []), ("TooLarge", "large", ["what", "limit"])] = some d) (l := upto (m.length : Int)) fun k mk => by
    obtain ⟨k0, k1⟩ := mem_count mk
    obtain ⟨hk, ek⟩ := ntAt_mem k0 k1
    have no : ¬ (0 < k ∧ ltN (m.getD (k - 1).toNat default) (ntAt m k) = false) := fun ⟨z, q⟩ => by
      obtain ⟨hj, ej⟩ := ntAt_mem (m := m) (k := k - 1) (by omega) (by omega)
      have p := List.pairwise_iff_getElem.mp h.asc (k - 1).toNat k.toNat hj hk (by omega)
      have ej' : m.getD (k - 1).toNat default = m[(k - 1).toNat] := ej
      rw [ej', ek, p] at q
      cases q
    have en : nFault t m k = if ¬ (-1 ≤ (ntAt m k).2.1 ∧ (ntAt m k).2.1 ≤ 599) then some ("pitch" : Str) else if t < (ntAt m k).1 + (ntAt m k).2.2 then some ("length" : Str) else none := by
      show (if 0 < k ∧ ltN (m.getD (k - 1).toNat default) (ntAt m k) = false then _ else _) = _
      rw [if_neg no]
      rfl
    unfold cFault noteOk
    rw [en]
    by_cases h4 : -1 ≤ (ntAt m k).2.1 ∧ (ntAt m k).2.1 ≤ 599
    · rw [if_neg (fun z => z h4), decide_eq_true h4]
      by_cases h5 : t < (ntAt m k).1 + (ntAt m k).2.2
      · rw [if_pos h5, decide_eq_false (by omega), if_neg (by decide), if_pos h4]
        exact .inr ⟨_, _, rfl, rfl, rfl⟩
      · rw [if_neg h5, decide_eq_true (by omega), if_pos (by decide)]
        exact .inl ⟨rfl, rfl⟩
    · rw [if_pos h4, decide_eq_false h4, if_neg (by simp), if_neg h4]
      exact .inr ⟨_, _, rfl, rfl, rfl⟩
  rcases par with ⟨e1, e2⟩ | ⟨e, d, e1, e2, r⟩
  · rw [e1, e2]
    exact .inl ⟨rfl, rfl⟩
  · rw [e1, e2]
    exact .inr ⟨e, rfl, r⟩
theorem smI {i : Int} (h : -9999999 ≤ i ∧ i ≤ 9999999) : Sm 40 0 (.int i) := Sm.int (by omega) (by omega)
theorem smW (w : Str) (h : (w.cps.toList.all (fun c => decide (c < 16 ^ 8)) && decide (w.length ≤ 8)) = true := by decide +kernel) : Sm 8 0 (.str w) := by
  rw [Bool.and_eq_true, decide_eq_true_eq] at h
  exact Sm.str h.1 h.2
theorem sm_sco {t : Int} {m : List Nt} (ht : -9999999 ≤ t ∧ t ≤ 9999999) (hl : m.length ≤ 200) (hn : ∀ n ∈ m, (-9999999 ≤ n.1 ∧ n.1 ≤ 9999999) ∧ (-9999999 ≤ n.2.1 ∧ n.2.1 ≤ 9999999) ∧ (-9999999 ≤ n.2.2 ∧ n.2.2 ≤ 9999999)) : Sm 26000 3 (scoD t m) := by
  have nt : SmAll (200 * 124) 1 (m.map ntD) := SmAll.map (fun n mn => (((SmAll.cons (smI (hn n mn).1) (SmAll.cons (smI (hn n mn).2.1) (SmAll.cons (smI (hn n mn).2.2) .nil))).tup).mono (by decide) (by decide) : Sm 123 1 (ntD n))) hl
  exact ((SmAll.cons (smI ht) (SmAll.cons nt.tup .nil)).tup).mono (by decide) (by decide)
theorem sm_chk {t : Int} {m : List Nt} (h : Sm 26000 3 (scoD t m)) (hl : m.length ≤ 200) : Sm 27000 4 (chkD t m) := by
  unfold chkD
  split
  · exact ((SmAll.cons (smW "large") (SmAll.cons (smW "ticks") (SmAll.cons (smI (i := 64) (by decide)) .nil))).tup).mono (by decide) (by decide)
  split
  · exact ((SmAll.cons (smW "large") (SmAll.cons (smW "notes") (SmAll.cons (smI (i := 120) (by decide)) .nil))).tup).mono (by decide) (by decide)
  cases e : (upto (m.length : Int)).findSome? (cFault t m) with
  | none => exact ((SmAll.cons (smW "told") (SmAll.cons h .nil)).tup).mono (by decide) (by decide)
  | some d =>
    obtain ⟨k, mk, q⟩ := List.exists_of_findSome?_eq_some e
    have := mem_count mk
    unfold cFault at q
    split at q
    · cases q
    · cases q
      show Sm 27000 4 (.tuple [.str "score", .int k, .str (if _ then "length" else "pitch")])
      split
      · exact ((SmAll.cons (smW "score") (SmAll.cons (smI (i := k) (by omega)) (SmAll.cons (smW "length") .nil))).tup).mono (by decide) (by decide)
      · exact ((SmAll.cons (smW "score") (SmAll.cons (smI (i := k) (by omega)) (SmAll.cons (smW "pitch") .nil))).tup).mono (by decide) (by decide)
end Pd

namespace Pd
open PySem PySem.Spec PyProof.Rows L2
abbrev e4 (o2 : O) (H : Hrp) (t u : Int) (ns ms : List Nt) (pd qd : D) (o : List O) : Ev := none :: some .bag :: o2 :: some (.d H.d) :: some (.d (scoD t ns)) :: some (.d pd) :: some (.d (scoD u ms)) :: some (.d qd) :: some (.d (.int t)) :: some (.d (.tuple (ns.map ntD))) :: o
def rowsD (t : Int) (ns : List Nt) : D := .list ((upto t).map fun k => .tuple ((ringsI ns k).map .int))
def begD (t : Int) (ns : List Nt) : D := .list ((upto t).map fun k => .tuple ((beginsI ns k).map .int))
noncomputable def pitD (t : Int) (ns : List Nt) : D := .list ((upto t).map fun k => .tuple ((uniq (pitchesI ns (ringsI ns k))).map .int))
section
variable {E : En} {H : Hrp} {t u : Int} {ns ms : List Nt} {pd qd : D} {o2 o10 o11 o12 o13 o14 o15 o16 o17 o18 o19 o20 o21 o22 o23 o24 o25 o26 o27 o28 o29 o30 o31 o32 : O}
theorem s29 (t1 : 1 ≤ t) (t2 : t ≤ 500) (h : w_law_28 E (e4 o2 H t u ns ms pd qd [some (.d (rowsD t ns)), o11, o12, o13, o14, o15, o16, o17, o18, o19, o20, o21, o22, o23, o24, o25, o26, o27, o28, o29, o30, o31, o32])) :
    w_law_29 E (e4 o2 H t u ns ms pd qd [o10, o11, o12, o13, o14, o15, o16, o17, o18, o19, o20, o21, o22, o23, o24, o25, o26, o27, o28, o29, o30, o31, o32]) := by
  refine ⟨⟨by omega, by omega⟩, szl (by omega), ?_⟩
  show lcW _ _ _ _ _ (countD 0 t.toNat) []
  rw [count_upto]
  refine lcW_mapf PyData.int (fun k => .tuple ((ringsI ns k).map .int)) (fun k mk K hk => ?_) h
  show lcW _ _ _ _ _ (enumD (ns.map ntD)) []
  rw [enum_upto]
  refine lcW_fm (fun i => .tuple [.int i, ntD (ns.getD i.toNat default)]) (fun i => .int i) (fun i => decide ((ntAt ns i).1 ≤ k) && decide (k ≤ lastN (ntAt ns i))) (fun i mi K acc hk => ?_) hk
  refine ⟨rfl, tv_chain_lt (a := (ntAt ns i).1) (b := k) (c := (ntAt ns i).1 + (ntAt ns i).2.2) (fun Q E q => q) (fun Q E q => q) (fun Q E q => q) ?_⟩
  have e : decide (k < (ntAt ns i).1 + (ntAt ns i).2.2) = decide (k ≤ lastN (ntAt ns i)) := by
    unfold lastN
    exact decide_eq_decide.mpr (by omega)
  rw [e]
  cases e : (decide ((ntAt ns i).1 ≤ k) && decide (k ≤ lastN (ntAt ns i))) with
  | true => rw [e] at hk; exact hk
  | false => rw [e] at hk; exact hk
theorem s28 (t1 : 1 ≤ t) (t2 : t ≤ 500) (h : w_law_27 E (e4 o2 H t u ns ms pd qd [o10, o11, o12, o13, some (.d (begD t ns)), o15, o16, o17, o18, o19, o20, o21, o22, o23, o24, o25, o26, o27, o28, o29, o30, o31, o32])) :
    w_law_28 E (e4 o2 H t u ns ms pd qd [o10, o11, o12, o13, o14, o15, o16, o17, o18, o19, o20, o21, o22, o23, o24, o25, o26, o27, o28, o29, o30, o31, o32]) := by
  refine ⟨⟨by omega, by omega⟩, szl (by omega), ?_⟩
  show lcW _ _ _ _ _ (countD 0 t.toNat) []
  rw [count_upto]
  refine lcW_mapf PyData.int (fun k => .tuple ((beginsI ns k).map .int)) (fun k mk K hk => ?_) h
  show lcW _ _ _ _ _ (enumD (ns.map ntD)) []
  rw [enum_upto]
  refine lcW_fm (fun i => .tuple [.int i, ntD (ns.getD i.toNat default)]) (fun i => .int i) (fun i => decide ((ntAt ns i).1 = k)) (fun i mi K acc hk => ?_) hk
  refine ⟨rfl, int_dp _ _, ?_⟩
  show (if PyData.eqv (.int (ntAt ns i).1) (.int k) = true then _ else _)
  rw [eqv_ints]
  cases e : decide ((ntAt ns i).1 = k) with
  | true => rw [e] at hk; exact hk
  | false => rw [e] at hk; exact hk
theorem s27 (hz : ns.length < 64) (h : w_law_26 E (e4 o2 H t u ns ms pd qd [some (.d (rowsD t ns)), o11, o12, o13, o14, some (.d (pitD t ns)), o16, o17, o18, o19, o20, o21, o22, o23, o24, o25, o26, o27, o28, o29, o30, o31, o32])) :
    w_law_27 E (e4 o2 H t u ns ms pd qd [some (.d (rowsD t ns)), o11, o12, o13, o14, o15, o16, o17, o18, o19, o20, o21, o22, o23, o24, o25, o26, o27, o28, o29, o30, o31, o32]) := by
  show lcW _ _ _ _ _ ((upto t).map fun k => PyData.tuple ((ringsI ns k).map .int)) []
  refine lcW_mapf (fun k => PyData.tuple ((ringsI ns k).map .int)) (fun k => .tuple ((uniq (pitchesI ns (ringsI ns k))).map .int)) (fun k mk K hk => ?_) h
  show lcW _ _ _ _ _ ((ringsI ns k).map PyData.int) []
  refine lcW_mapf PyData.int (fun i => .int (ntAt ns i).2.1) (fun i mi K hk => ?_) ?_
  · have m := mem_count (List.mem_filter.mp mi).1
    have at1 := atI_map (f := ntD) m.1 m.2
    simp only [e4, wSeq, wIfS, wSkip, wRet, wRetN, wRetL, wRaise0, wSetD, wSet, wAug, wAsg, wMt, wFor, wDo, wFrz, wBagSet, wBagAdd, wBagCell, wBag, wVar, wC, wOp, wNeg, wTv, wTnot, wTand, wTor, wAnd, wOr, wNot, wIf, wChain, wIsN, wIsi, wNil, wCons, wStar, wTup, wLst, wCB, wCall, wCallV, wCallL, wFnA, wHeard, wSl, wSo, wNo, wRng1, wRng2, wRng3, wIt, wItL, wItS, wLc, wYes, wSortedSet, bName, bTup, bCons, bNil, op1, op2i, bAbs, bMax2, bMin2, bInt, bSum, bRepr, opAdd, opSub, opMul, opMod, opFdiv, opPow, opCmp, opIsB, mAppend, mInsert, mExtend, keeps, toArgs, toArg, Val.rd, Val.kp, brw, slv, isNon, noFn, endW, wipeE, List.getElem?_cons_zero, List.getElem?_cons_succ, List.map_cons, List.map_nil, List.cons_append, List.nil_append, List.set_cons_zero, List.set_cons_succ, List.length_cons, List.length_nil, Bool.false_xor, Bool.true_xor, wEnum, wZip, bStr, wFmt, wJoined, wJcons, wJnil, wLR1, wTR3, wPm, pIndex, reads, tyD, opRepT, wLc2, wUnp, wUcons, wThaw, wThawT, wRev, wRaise2, wRaised, bBest, wSortedKeys, wIntE]
    refine ix_tup at1 ?_
    exact hk
  · have e : intsOf ([] ++ (ringsI ns k).map fun i => PyData.int (ntAt ns i).2.1) = some (pitchesI ns (ringsI ns k)) := by
      rw [List.nil_append, ← intsOf_map]
      unfold pitchesI
      rw [List.map_map]
      rfl
    show (match intsOf ([] ++ (ringsI ns k).map fun i => PyData.int (ntAt ns i).2.1) with
      | some ns => ns.length < 64 ∧ _
      | none => False)
    rw [e]
    refine ⟨by unfold pitchesI; rw [List.length_map]; have := rings_len ns k; omega, fun out p m => ?_⟩
    rw [uniq_of p m] at hk
    exact hk
theorem foldl_max : ∀ (l : List Int) (a : Int), (a ≤ l.foldl max a ∧ ∀ x ∈ l, x ≤ l.foldl max a) ∧ (l.foldl max a = a ∨ l.foldl max a ∈ l)
  | [], a => ⟨⟨Int.le_refl _, by simp⟩, .inl rfl⟩
  | b :: l, a => by
    rw [List.foldl_cons]
    obtain ⟨⟨h1, h2⟩, h3⟩ := foldl_max l (max a b)
    refine ⟨⟨by omega, fun x mx => ?_⟩, ?_⟩
    · rcases List.mem_cons.mp mx with rfl | mx
      · omega
      · exact h2 x mx
    · rcases h3 with e | m
      · rw [e]
        by_cases q : a ≤ b
        · exact .inr (by rw [Int.max_eq_right q]; exact List.mem_cons_self)
        · exact .inl (Int.max_eq_left (by omega))
      · exact .inr (List.mem_cons_of_mem _ m)
theorem upto_mem {n j : Int} (h0 : 0 ≤ j) (h1 : j < n) : j ∈ upto n := by
  unfold upto
  exact List.mem_map.mpr ⟨j.toNat, List.mem_range.mpr (by omega), by omega⟩
theorem s26 (t1 : 1 ≤ t) (h : ∀ M : Int, (∃ k, 0 ≤ k ∧ k < t ∧ M = (ringsI ns k).length) → (∀ k, 0 ≤ k → k < t → ((ringsI ns k).length : Int) ≤ M) → w_law_25 E (e4 o2 H t u ns ms pd qd [some (.d (rowsD t ns)), o11, o12, o13, o14, o15, o16, some (.d (.int M)), o18, o19, o20, o21, o22, o23, o24, o25, o26, o27, o28, o29, o30, o31, o32])) :
    w_law_26 E (e4 o2 H t u ns ms pd qd [some (.d (rowsD t ns)), o11, o12, o13, o14, o15, o16, o17, o18, o19, o20, o21, o22, o23, o24, o25, o26, o27, o28, o29, o30, o31, o32]) := by
  show lcW _ _ _ _ _ ((upto t).map fun k => PyData.tuple ((ringsI ns k).map .int)) []
  refine lcW_mapf (fun k => PyData.tuple ((ringsI ns k).map .int)) (fun k => .int ((ringsI ns k).length : Int)) (fun k mk K hk => ?_) ?_
  · show K (.int ((((ringsI ns k).map PyData.int).length : Nat) : Int))
    rw [List.length_map]
    exact hk
  · obtain ⟨r, er⟩ := upto_cons t1
    have e : ((upto t).map fun k => PyData.int ((ringsI ns k).length : Int)) = ((upto t).map fun k => ((ringsI ns k).length : Int)).map .int := by rw [List.map_map]; rfl
    rw [List.nil_append, e]
    have hm : ∀ x, x ∈ ((upto t).map fun k => ((ringsI ns k).length : Int)) ↔ ∃ k, 0 ≤ k ∧ k < t ∧ x = (ringsI ns k).length := fun x => by
      rw [List.mem_map]
      exact ⟨fun ⟨k, m, e⟩ => ⟨k, (mem_count m).1, (mem_count m).2, e.symm⟩, fun ⟨k, k0, k1, e⟩ => ⟨k, upto_mem k0 k1, e.symm⟩⟩
    generalize eq : ((upto t).map fun k => ((ringsI ns k).length : Int)) = xs at hm
    rw [er, List.map_cons] at eq
    subst eq
    generalize ((ringsI ns 0).length : Int) = a at hm
    generalize (r.map fun k => ((ringsI ns k).length : Int)) = b at hm
    refine ⟨alike_is (a :: b), ?_⟩
    show (match some (PySem.W.maxD (.int a) (b.map .int)) with
      | some d => _
      | none => False)
    rw [PySem.W.maxD_ints]
    obtain ⟨⟨g1, g2⟩, g3⟩ := foldl_max b a
    refine h _ ((hm _).mp ?_) fun k k0 k1 => ?_
    · rcases g3 with e | m
      · rw [e]; exact List.mem_cons_self
      · exact List.mem_cons_of_mem _ m
    · rcases List.mem_cons.mp ((hm _).mpr ⟨k, k0, k1, rfl⟩) with e | m
      · rw [e]; exact g1
      · exact g2 _ m
theorem ix_own {xs : List D} {j : Int} {d : D} {P : Val → Prop} (e : atI xs j = some d) (h : P (.d d)) : opIx (.own xs) (.d (.int j)) P := by
  show match atI xs j with
    | some d => P (.d d)
    | none => False
  rw [e]
  exact h
theorem s25 {M : Int} (t1 : 1 ≤ t) (t2 : t ≤ 500) (he : ∃ k, 0 ≤ k ∧ k < t ∧ M = (ringsI ns k).length) (hm : ∀ k, 0 ≤ k → k < t → ((ringsI ns k).length : Int) ≤ M) (h : ∀ k, Loud t ns M k → w_law_24 E (e4 o2 H t u ns ms pd qd [some (.d (rowsD t ns)), o11, o12, o13, o14, o15, o16, some (.d (.int M)), some (.d (.tuple [.int M, .int k])), o19, o20, o21, o22, o23, o24, o25, o26, o27, o28, o29, o30, o31, o32])) :
    w_law_25 E (e4 o2 H t u ns ms pd qd [some (.d (rowsD t ns)), o11, o12, o13, o14, o15, o16, some (.d (.int M)), o18, o19, o20, o21, o22, o23, o24, o25, o26, o27, o28, o29, o30, o31, o32]) := by
  refine ⟨⟨by omega, by omega⟩, szl (by omega), ?_⟩
  show lcW _ _ _ _ _ (countD 0 t.toNat) []
  rw [count_upto]
  refine lcW_fm PyData.int (fun k => .int k) (fun k => decide (((ringsI ns k).length : Int) = M)) (fun k mk K acc hk => ?_) ?_
  · have m := mem_count mk
    have at1 := at_upto (n := t) (fun k => PyData.tuple ((ringsI ns k).map .int)) m.1 m.2
    simp only [e4, wSeq, wIfS, wSkip, wRet, wRetN, wRetL, wRaise0, wSetD, wSet, wAug, wAsg, wMt, wFor, wDo, wFrz, wBagSet, wBagAdd, wBagCell, wBag, wVar, wC, wOp, wNeg, wTv, wTnot, wTand, wTor, wAnd, wOr, wNot, wIf, wChain, wIsN, wIsi, wNil, wCons, wStar, wTup, wLst, wCB, wCall, wCallV, wCallL, wFnA, wHeard, wSl, wSo, wNo, wRng1, wRng2, wRng3, wIt, wItL, wItS, wLc, wYes, wSortedSet, bName, bTup, bCons, bNil, op1, op2i, bAbs, bMax2, bMin2, bInt, bSum, bRepr, opAdd, opSub, opMul, opMod, opFdiv, opPow, opCmp, opIsB, mAppend, mInsert, mExtend, keeps, toArgs, toArg, Val.rd, Val.kp, brw, slv, isNon, noFn, endW, wipeE, List.getElem?_cons_zero, List.getElem?_cons_succ, List.map_cons, List.map_nil, List.cons_append, List.nil_append, List.set_cons_zero, List.set_cons_succ, List.length_cons, List.length_nil, Bool.false_xor, Bool.true_xor, wEnum, wZip, bStr, wFmt, wJoined, wJcons, wJnil, wLR1, wTR3, wPm, pIndex, reads, tyD, opRepT, wLc2, wUnp, wUcons, wThaw, wThawT, wRev, wRaise2, wRaised, bBest, wSortedKeys, wIntE]
    refine ix_list at1 ?_
    refine ⟨int_dp _ _, ?_⟩
    show (if PyData.eqv (.int ((((ringsI ns k).map PyData.int).length : Nat) : Int)) (.int M) = true then _ else _)
    rw [eqv_ints, List.length_map]
    cases e : decide (((ringsI ns k).length : Int) = M) with
    | true => rw [e] at hk; exact hk
    | false => rw [e] at hk; exact hk
  · rw [List.nil_append]
    have asc : ((upto t).filter fun k => decide (((ringsI ns k).length : Int) = M)).Pairwise (· < ·) := (upto_asc t).filter _
    have mm : ∀ k, k ∈ ((upto t).filter fun k => decide (((ringsI ns k).length : Int) = M)) ↔ (0 ≤ k ∧ k < t) ∧ ((ringsI ns k).length : Int) = M := fun k => by
      rw [List.mem_filter, decide_eq_true_eq]
      exact ⟨fun z => ⟨mem_count z.1, z.2⟩, fun z => ⟨upto_mem z.1.1 z.1.2, z.2⟩⟩
    generalize ((upto t).filter fun k => decide (((ringsI ns k).length : Int) = M)) = fl at asc mm
    cases fl with
    | nil =>
      obtain ⟨k, k0, k1, e⟩ := he
      have := (mm k).mpr ⟨⟨k0, k1⟩, e.symm⟩
      cases this
    | cons k r =>
      have hk := (mm k).mp List.mem_cons_self
      dsimp only [wC]
      refine ix_own (at_first k r) ?_
      refine ⟨szr, h k ⟨hk.1.1, hk.1.2, hk.2.symm, hm, fun j j0 j1 => ?_⟩⟩
      have a := hm j j0 (by omega)
      have : ¬ ((ringsI ns j).length : Int) = M := fun z => by
        have q := (mm j).mpr ⟨⟨j0, by omega⟩, z⟩
        rcases List.mem_cons.mp q with e | q
        · omega
        · have := (List.pairwise_cons.mp asc).1 j q
          omega
      omega
theorem sm_rows {f : Int → List Int} (t2 : t ≤ 10) (hl : ∀ k, (f k).length ≤ 30) (hb : ∀ k, ∀ i ∈ f k, -999999999999 ≤ i ∧ i ≤ 999999999999) : Sm 12400 2 (.list ((upto t).map fun k => .tuple ((f k).map .int))) :=
  ((SmAll.map (n := 1230) (k := 1) (m := 10) (fun k _ => ((SmAll.ints (m := 30) (hb k) (hl k)).tup).mono (by decide) (by decide)) (by rw [upto_len]; omega)).list).mono (by decide) (by decide)
theorem s24 (t1 : 1 ≤ t) (t2 : t ≤ 10) (hz : ns.length ≤ 30) (h : w_law_23 E (e4 o2 H t u ns ms pd qd [o10, o11, o12, o13, o14, o15, o16, o17, o18, some (.d (.list [rowsD t ns, begD t ns, pitD t ns])), o20, o21, o22, o23, o24, o25, o26, o27, o28, o29, o30, o31, o32])) :
    w_law_24 E (e4 o2 H t u ns ms pd qd [o10, o11, o12, o13, o14, o15, o16, o17, o18, o19, o20, o21, o22, o23, o24, o25, o26, o27, o28, o29, o30, o31, o32]) := by
  refine ⟨⟨by omega, by omega⟩, szl (by omega), ?_⟩
  show lcW _ _ _ _ _ (countD 0 t.toNat) []
  rw [count_upto]
  refine lcW_mapf PyData.int (fun k => .tuple ((ringsI ns k).map .int)) (fun k mk K hk => ⟨rfl, t, ns, k, rfl, hk⟩) ?_
  refine ⟨⟨by omega, by omega⟩, szl (by omega), ?_⟩
  show lcW _ _ _ _ _ (countD 0 t.toNat) []
  rw [count_upto]
  refine lcW_mapf PyData.int (fun k => .tuple ((beginsI ns k).map .int)) (fun k mk K hk => ⟨rfl, t, ns, k, rfl, hk⟩) ?_
  refine ⟨⟨by omega, by omega⟩, szl (by omega), ?_⟩
  show lcW _ _ _ _ _ (countD 0 t.toNat) []
  rw [count_upto]
  refine lcW_mapf PyData.int (fun k => .tuple ((uniq (pitchesI ns (ringsI ns k))).map .int)) (fun k mk K hk => ⟨rfl, t, ns, k, rfl, by have := rings_len ns k; omega, hk⟩) ?_
  exact ⟨szr, h⟩
theorem s23 {M k : Int} (t1 : 1 ≤ t) (t2 : t ≤ 10) (hz : ns.length ≤ 30) (hp : ∀ n ∈ ns, -9999999 ≤ n.2.1 ∧ n.2.1 ≤ 9999999) (hl : Loud t ns M k) (h : w_law_22 E (e4 o2 H t u ns ms pd qd [some (.d (rowsD t ns)), o11, o12, o13, some (.d (begD t ns)), some (.d (pitD t ns)), o16, o17, some (.d (.tuple [.int M, .int k])), some (.d (.list [rowsD t ns, begD t ns, pitD t ns])), o20, o21, o22, o23, o24, o25, o26, o27, o28, o29, o30, o31, o32])) :
    w_law_23 E (e4 o2 H t u ns ms pd qd [some (.d (rowsD t ns)), o11, o12, o13, some (.d (begD t ns)), some (.d (pitD t ns)), o16, o17, some (.d (.tuple [.int M, .int k])), some (.d (.list [rowsD t ns, begD t ns, pitD t ns])), o20, o21, o22, o23, o24, o25, o26, o27, o28, o29, o30, o31, o32]) := by
  have ix : ∀ (l : List Int), (∀ i ∈ l, i ∈ upto (ns.length : Int)) → ∀ i ∈ l, -999999999999 ≤ i ∧ i ≤ 999999999999 := fun l hl i mi => by
    have := mem_count (hl i mi)
    omega
  have a1 : Sm 12400 2 (rowsD t ns) := sm_rows t2 (fun k => Nat.le_trans (rings_len ns k) hz) fun k => ix _ fun i m => (List.mem_filter.mp m).1
  have a2 : Sm 12400 2 (begD t ns) := sm_rows t2 (fun k => Nat.le_trans (begins_len ns k) hz) fun k => ix _ fun i m => (List.mem_filter.mp m).1
  have a3 : Sm 12400 2 (pitD t ns) := sm_rows t2 (fun k => Nat.le_trans (uniq_len _) (by unfold pitchesI; rw [List.length_map]; exact Nat.le_trans (rings_len ns k) hz)) fun k i m => by
    have q := uniq_mem m
    unfold pitchesI at q
    obtain ⟨j, mj, rfl⟩ := List.mem_map.mp q
    have mc := mem_count (List.mem_filter.mp mj).1
    obtain ⟨hj, ej⟩ := ntAt_mem mc.1 mc.2
    have := hp (ntAt ns j) (by rw [ej]; exact List.getElem_mem hj)
    omega
  refine ⟨szr, ?_⟩
  refine ⟨rfl, .list [rowsD t ns, begD t ns, pitD t ns], rfl, ⟨40000, 3, by decide, by decide, ((SmAll.cons a1 (SmAll.cons a2 (SmAll.cons a3 .nil))).list).mono (by decide) (by decide)⟩, ?_⟩
  refine ⟨rfl, t, ns, rfl, t1, by omega, fun m' k' hl' => ?_⟩
  obtain ⟨e1, e2⟩ := hl.one hl'
  subst e1
  subst e2
  have mb : M = (ringsI ns k).length := hl.eq
  have rl := rings_len ns k
  refine ⟨rfl, .tuple [.int M, .int k], rfl, ⟨100, 1, by decide, by decide, ((SmAll.cons (smI (i := M) (by omega)) (SmAll.cons (smI (i := k) (by have := hl.k0; have := hl.k1; omega)) .nil)).tup).mono (by decide) (by decide)⟩, h⟩
end
end Pd

namespace Pd
open PySem PySem.Spec PyProof.Rows L2
theorem foldl_min : ∀ (l : List Int) (a : Int), l.foldl min a = a ∨ l.foldl min a ∈ l
  | [], a => .inl rfl
  | b :: l, a => by
    rw [List.foldl_cons]
    rcases foldl_min l (min a b) with e | m
    · rw [e]
      by_cases q : a ≤ b
      · exact .inl (Int.min_eq_left q)
      · exact .inr (by rw [Int.min_eq_right (by omega)]; exact List.mem_cons_self)
    · exact .inr (List.mem_cons_of_mem _ m)
theorem sm_span {ns : List Nt} (hp : ∀ n ∈ ns, -9999999 ≤ n.2.1 ∧ n.2.1 ≤ 9999999) : Sm 100 1 (spanD ns) := by
  cases ns with
  | nil => exact Sm.none.mono (by decide) (by decide)
  | cons n ns =>
    have h0 := hp n List.mem_cons_self
    have hm : ∀ x ∈ (ns.map fun n => n.2.1), -9999999 ≤ x ∧ x ≤ 9999999 := fun x m => by
      obtain ⟨q, mq, rfl⟩ := List.mem_map.mp m
      exact hp q (List.mem_cons_of_mem _ mq)
    have a1 : -9999999 ≤ (ns.map fun n => n.2.1).foldl min n.2.1 ∧ (ns.map fun n => n.2.1).foldl min n.2.1 ≤ 9999999 := by
      rcases foldl_min (ns.map fun n => n.2.1) n.2.1 with e | m
      · rw [e]; exact h0
      · exact hm _ m
    have a2 : -9999999 ≤ (ns.map fun n => n.2.1).foldl max n.2.1 ∧ (ns.map fun n => n.2.1).foldl max n.2.1 ≤ 9999999 := by
      rcases (foldl_max (ns.map fun n => n.2.1) n.2.1).2 with e | m
      · rw [e]; exact h0
      · exact hm _ m
    exact ((SmAll.cons (smI a1) (SmAll.cons (smI a2) .nil)).tup).mono (by decide) (by decide)
/-- bounds of a score of the law -/
structure Bs4 (ns : List Nt) : Prop where
  len : ns.length ≤ 30
  note : ∀ n ∈ ns, (0 ≤ n.1 ∧ n.1 ≤ 7) ∧ (-9999 ≤ n.2.1 ∧ n.2.1 ≤ 200000) ∧ (1 ≤ n.2.2 ∧ n.2.2 ≤ 3)
section
variable {E : En} {H : Hrp} {t u : Int} {ns ms : List Nt} {pd qd : D} {o2 o10 o11 o12 o13 o14 o15 o16 o17 o18 o19 o20 o21 o22 o23 o24 o25 o26 o27 o28 o29 o30 o31 o32 : O}
theorem s22 (h : w_law_21 E (e4 o2 H t u ns ms pd qd [o10, o11, o12, o13, o14, o15, o16, o17, o18, o19, some (.d (spanD ns)), o21, o22, o23, o24, o25, o26, o27, o28, o29, o30, o31, o32])) :
    w_law_22 E (e4 o2 H t u ns ms pd qd [o10, o11, o12, o13, o14, o15, o16, o17, o18, o19, o20, o21, o22, o23, o24, o25, o26, o27, o28, o29, o30, o31, o32]) := by
  refine ⟨Nat.zero_le _, Nat.le_trans (Nat.min_le_right _ _) (by decide), ?_⟩
  cases ns with
  | nil => exact h
  | cons n ns =>
    have e : (ns.map fun n => PyData.int n.2.1) = (ns.map fun n => n.2.1).map PyData.int := by rw [List.map_map]; rfl
    have al := alike_is (n.2.1 :: ns.map fun n => n.2.1)
    rw [List.map_cons, ← e] at al
    show (if (!PyData.eqv (.tuple ((n :: ns).map ntD)) (.tuple [])) = true then _ else _)
    rw [show PyData.eqv (.tuple ((n :: ns).map ntD)) (.tuple []) = false from rfl, if_pos (by decide)]
    simp only [wTup, wCons, wCB, wLc, wIt, wVar, Val.rd, Val.kp, brw, e4, List.getElem?_cons_succ, List.getElem?_cons_zero, wNil]
    refine lcW_mapf ntD (fun n => .int n.2.1) (fun n mn K hk => hk) ?_
    refine ⟨al, ?_⟩
    refine lcW_mapf ntD (fun n => .int n.2.1) (fun n mn K hk => hk) ?_
    refine ⟨al, szr, ?_⟩
    have g : w_law_21 E (e4 o2 H t u (n :: ns) ms pd qd [o10, o11, o12, o13, o14, o15, o16, o17, o18, o19, some (.d (.tuple [PySem.W.minD (.int n.2.1) (ns.map fun n => PyData.int n.2.1), PySem.W.maxD (.int n.2.1) (ns.map fun n => PyData.int n.2.1)])), o21, o22, o23, o24, o25, o26, o27, o28, o29, o30, o31, o32]) := by
      rw [e, PySem.W.minD_ints, PySem.W.maxD_ints]
      exact h
    exact g
theorem s21 (b : Bs4 ns) (h : w_law_20 E (e4 o2 H t u ns ms pd qd [o10, o11, o12, o13, o14, o15, o16, o17, o18, o19, some (.d (spanD ns)), o21, o22, o23, o24, o25, o26, o27, o28, o29, o30, o31, o32])) :
    w_law_21 E (e4 o2 H t u ns ms pd qd [o10, o11, o12, o13, o14, o15, o16, o17, o18, o19, some (.d (spanD ns)), o21, o22, o23, o24, o25, o26, o27, o28, o29, o30, o31, o32]) := by
  refine ⟨rfl, t, ns, rfl, ?_⟩
  show lcW _ _ _ _ _ (ns.map ntD) []
  refine lcW_mapf ntD (fun n => .int (lastN n)) (fun n mn K hk => ⟨rfl, n, rfl, hk⟩) ?_
  refine ⟨szr, ?_⟩
  show lcW _ _ _ _ _ (ns.map ntD) []
  refine lcW_mapf ntD (fun n => .int (lastN n)) (fun n mn K hk => hk) ?_
  refine ⟨szr, ?_⟩
  have sl : SmAll (30 * 41) 0 (ns.map fun n => PyData.int (lastN n)) := SmAll.map (fun n mn => smI (by have := b.note n mn; unfold lastN; omega)) b.len
  exact ⟨rfl, .list [spanD ns, .list (ns.map fun n => PyData.int (lastN n))], rfl, ⟨2000, 2, by decide, by decide, ((SmAll.cons (sm_span fun n mn => by have := b.note n mn; omega) (SmAll.cons sl.list .nil)).list).mono (by decide) (by decide)⟩, h⟩
theorem s20 (h : ∀ s : Int, -600 ≤ s → s ≤ 600 → w_law_19 E (e4 o2 H t u ns ms pd qd [o10, o11, o12, o13, o14, o15, o16, o17, o18, o19, o20, some (.d (.int s)), o22, o23, o24, o25, o26, o27, o28, o29, o30, o31, o32])) :
    w_law_20 E (e4 o2 H t u ns ms pd qd [o10, o11, o12, o13, o14, o15, o16, o17, o18, o19, o20, o21, o22, o23, o24, o25, o26, o27, o28, o29, o30, o31, o32]) := by
  refine ⟨rfl, 20, rfl, by decide, by decide, fun v v0 v1 => ?_⟩
  refine ⟨szr, rfl, _, rfl, by simp, by simp, fun x hx => ?_⟩
  simp only [List.mem_cons, List.not_mem_nil, or_false] at hx
  rcases hx with rfl | rfl | rfl | rfl | rfl | rfl | rfl
  · exact h 0 (by decide) (by decide)
  · exact h 1 (by decide) (by decide)
  · exact h (-1) (by decide) (by decide)
  · exact h 12 (by decide) (by decide)
  · exact h (-12) (by decide) (by decide)
  · exact h 600 (by decide) (by decide)
  · exact h (v - 10) (by omega) (by omega)
theorem s19 {s : Int} (h : w_law_18 E (e4 o2 H t u ns ms pd qd [o10, o11, o12, o13, o14, o15, o16, o17, o18, o19, o20, some (.d (.int s)), some (.d (chkD t (ns.map (upN s)))), o23, o24, o25, o26, o27, o28, o29, o30, o31, o32])) :
    w_law_19 E (e4 o2 H t u ns ms pd qd [o10, o11, o12, o13, o14, o15, o16, o17, o18, o19, o20, some (.d (.int s)), o22, o23, o24, o25, o26, o27, o28, o29, o30, o31, o32]) := by
  show lcW _ _ _ _ _ (ns.map ntD) []
  refine lcW_mapf ntD (fun n => ntD (upN s n)) (fun n mn K hk => ⟨rfl, szr, hk⟩) ?_
  exact ⟨szr, rfl, t, ns.map (upN s), by rw [sco_map]; rfl, h⟩
theorem s18 (t1 : 1 ≤ t) (t2 : t ≤ 500) (h : ∀ k : Int, 0 ≤ k → k < t → w_law_17 E (e4 o2 H t u ns ms pd qd [o10, o11, o12, some (.d (.int k)), o14, o15, o16, o17, o18, o19, o20, o21, o22, o23, o24, o25, o26, o27, o28, o29, o30, o31, o32])) :
    w_law_18 E (e4 o2 H t u ns ms pd qd [o10, o11, o12, o13, o14, o15, o16, o17, o18, o19, o20, o21, o22, o23, o24, o25, o26, o27, o28, o29, o30, o31, o32]) :=
  ⟨rfl, t, rfl, by omega, by omega, fun k k0 k1 => h k k0 k1⟩
def latD (t k : Int) (ns : List Nt) : D := scoD (t - k) ((ns.filter fun n => decide (k ≤ n.1)).map (earlierN k))
theorem s17 {k : Int} (h : w_law_16 E (e4 o2 H t u ns ms pd qd [o10, o11, o12, some (.d (.int k)), o14, o15, o16, o17, o18, o19, o20, o21, o22, o23, o24, some (.d (latD t k ns)), o26, o27, o28, o29, o30, o31, o32])) :
    w_law_17 E (e4 o2 H t u ns ms pd qd [o10, o11, o12, some (.d (.int k)), o14, o15, o16, o17, o18, o19, o20, o21, o22, o23, o24, o25, o26, o27, o28, o29, o30, o31, o32]) := by
  show lcW _ _ _ _ _ (ns.map ntD) []
  refine lcW_fm ntD (fun n => ntD (earlierN k n)) (fun n => decide (k ≤ n.1)) (fun n mn K acc hk => ?_) ?_
  · refine ⟨rfl, ?_⟩
    show (if decide (n.1 ≥ k) = true then _ else _)
    by_cases e : k ≤ n.1
    · rw [if_pos (decide_eq_true e)] at hk
      rw [if_pos (by simpa using e)]
      exact ⟨szr, hk⟩
    · rw [if_neg (by simpa using e)] at hk
      rw [if_neg (by simpa using e)]
      exact hk
  · refine ⟨szr, ?_⟩
    unfold latD at h
    rw [sco_map] at h
    exact h
theorem s16 (hl : ns.length + ms.length ≤ 900) (h : w_law_15 E (e4 o2 H t u ns ms pd qd [o10, o11, o12, o13, o14, o15, o16, o17, o18, o19, o20, o21, o22, o23, o24, o25, o26, some (.d (chkD (t + u) (ns ++ ms.map (laterN t)))), o28, o29, o30, o31, o32])) :
    w_law_16 E (e4 o2 H t u ns ms pd qd [o10, o11, o12, o13, o14, o15, o16, o17, o18, o19, o20, o21, o22, o23, o24, o25, o26, o27, o28, o29, o30, o31, o32]) := by
  show lcW _ _ _ _ _ (ms.map ntD) []
  refine lcW_mapf ntD (fun n => ntD (laterN t n)) (fun n mn K hk => ⟨rfl, szr, hk⟩) ?_
  refine ⟨?_, szr, rfl, t + u, ns ++ ms.map (laterN t), ?_, h⟩
  · show (ns.map ntD).length + ([] ++ ms.map fun n => ntD (laterN t n)).length ≤ sizeLine
    rw [List.nil_append, List.length_map, List.length_map]
    exact szl (by omega)
  · unfold scoD
    rw [List.map_append, List.map_map]
    rfl
theorem s15 {s : Int} {d22 : D} (ed : d22 = chkD t (ns.map (upN s))) (ord : Ordl t (ns.map (upN s))) (h : w_law_14 E (e4 o2 H t u ns ms pd qd [o10, o11, o12, o13, o14, o15, o16, o17, o18, o19, o20, some (.d (.int s)), some (.d d22), o23, o24, o25, o26, o27, some (.own [d22]), o29, o30, o31, o32])) :
    w_law_15 E (e4 o2 H t u ns ms pd qd [o10, o11, o12, o13, o14, o15, o16, o17, o18, o19, o20, some (.d (.int s)), some (.d d22), o23, o24, o25, o26, o27, o28, o29, o30, o31, o32]) := by
  subst ed
  refine ⟨rfl, t, ns, .int s, rfl, .inr ⟨s, rfl, ?_⟩⟩
  rcases chk_link ord with ⟨e1, e2⟩ | ⟨x, e1, e2⟩
  · refine .inl ⟨e1, szr, ?_⟩
    rw [e2] at h
    rw [e2]
    exact h
  · refine .inr ⟨x, e1, ?_⟩
    dsimp only
    rw [e2]
    exact ⟨szr, h⟩
theorem s14 {k : Int} {L : List D} (hL : L.length ≤ 500) (k0 : 0 ≤ k) (k1 : k < t) (h : w_law_13 E (e4 o2 H t u ns ms pd qd [o10, o11, o12, some (.d (.int k)), o14, o15, o16, o17, o18, o19, o20, o21, o22, o23, o24, o25, o26, o27, some (.own (L ++ [.tuple [.str "told", latD t k ns]])), o29, o30, o31, o32])) :
    w_law_14 E (e4 o2 H t u ns ms pd qd [o10, o11, o12, some (.d (.int k)), o14, o15, o16, o17, o18, o19, o20, o21, o22, o23, o24, o25, o26, o27, some (.own L), o29, o30, o31, o32]) := by
  refine ⟨rfl, t, ns, .int k, rfl, .inl ⟨k, rfl, k0, k1, ?_⟩⟩
  exact ⟨szl1 (by omega), h⟩
theorem s13 {L : List D} {d27 : D} (hL : L.length ≤ 500) (hl : ns.length + ms.length ≤ 900) (ed : d27 = chkD (t + u) (ns ++ ms.map (laterN t))) (ord : Ordl (t + u) (ns ++ ms.map (laterN t))) (h : w_law_12 E (e4 o2 H t u ns ms pd qd [o10, o11, o12, o13, o14, o15, o16, o17, o18, o19, o20, o21, o22, o23, o24, o25, o26, some (.d d27), some (.own (L ++ [d27])), o29, o30, o31, o32])) :
    w_law_13 E (e4 o2 H t u ns ms pd qd [o10, o11, o12, o13, o14, o15, o16, o17, o18, o19, o20, o21, o22, o23, o24, o25, o26, some (.d d27), some (.own L), o29, o30, o31, o32]) := by
  subst ed
  refine ⟨rfl, t, ns, u, ms, rfl, by omega, ?_⟩
  rcases chk_link ord with ⟨e1, e2⟩ | ⟨x, e1, e2⟩
  · refine .inl ⟨e1, szl1 (by omega), ?_⟩
    rw [e2] at h
    rw [e2]
    exact h
  · refine .inr ⟨x, e1, ?_⟩
    dsimp only
    rw [e2]
    exact ⟨szl1 (by omega), h⟩
theorem s12 {d22 d25 d27 : D} (a1 : Sm 27000 4 d22) (a2 : Sm 27000 4 d25) (a3 : Sm 27000 4 d27) (h : w_law_11 E (e4 o2 H t u ns ms pd qd [o10, o11, o12, o13, o14, o15, o16, o17, o18, o19, o20, o21, some (.d d22), o23, o24, some (.d d25), o26, some (.d d27), some (.own [d22, .tuple [.str "told", d25], d27]), o29, o30, o31, o32])) :
    w_law_12 E (e4 o2 H t u ns ms pd qd [o10, o11, o12, o13, o14, o15, o16, o17, o18, o19, o20, o21, some (.d d22), o23, o24, some (.d d25), o26, some (.d d27), some (.own [d22, .tuple [.str "told", d25], d27]), o29, o30, o31, o32]) := by
  refine ⟨szr, szr, ?_⟩
  refine ⟨rfl, .list [d22, .tuple [.str "told", d25], d27], rfl, ⟨90000, 6, by decide, by decide, ((SmAll.cons a1 (SmAll.cons ((SmAll.cons (smW "told") (SmAll.cons a2 .nil)).tup) (SmAll.cons a3 .nil))).list).mono (by decide) (by decide)⟩, rfl, h⟩
/-- the things that law tries as notes -/
def NC (ns : List Nt) (x : D) : Prop := (∃ n : Nt, x = ntD n ∧ (0 ≤ n.1 ∧ n.1 ≤ 7) ∧ (-9999 ≤ n.2.1 ∧ n.2.1 ≤ 200000) ∧ (0 ≤ n.2.2 ∧ n.2.2 ≤ 3)) ∨ x = .none ∨ x = .tuple [.int 0, .int 5] ∨ x = .tuple [.bool true, .int 5, .int 1] ∨ x = .list [.int 0, .int 5, .int 1]
theorem mem_cutG {α : Type} {xs : List α} {lo hi : Option Int} {x : α} (h : x ∈ cutG xs lo hi) : x ∈ xs := List.mem_of_mem_drop (List.mem_of_mem_take h)
theorem len_cutG {α : Type} (xs : List α) (lo hi : Option Int) : (cutG xs lo hi).length ≤ xs.length := by
  unfold cutG
  rw [List.length_take, List.length_drop]
  omega
theorem s11 {k : Int} (b : Bs4 ns) (t1 : 1 ≤ t) (t2 : t ≤ 7) (k0 : 0 ≤ k) (k1 : k < t) (h : ∀ L : List D, L ≠ [] → L.length < 1000 → (∀ x ∈ L, NC ns x) → w_law_10 E (e4 o2 H t u ns ms pd qd [o10, o11, o12, some (.d (.int k)), o14, o15, o16, o17, o18, o19, o20, o21, o22, o23, o24, o25, o26, o27, o28, some (.d (.list L)), o30, o31, o32])) :
    w_law_11 E (e4 o2 H t u ns ms pd qd [o10, o11, o12, some (.d (.int k)), o14, o15, o16, o17, o18, o19, o20, o21, o22, o23, o24, o25, o26, o27, o28, o29, o30, o31, o32]) := by
  refine ⟨rfl, 30, rfl, by decide, by decide, fun a a0 a1 => ?_⟩
  refine ⟨rfl, 3, rfl, by decide, by decide, fun c c0 c1 => ?_⟩
  have cl := len_cutG (ns.map ntD) none (some 1)
  rw [List.length_map] at cl
  have bl := b.len
  refine ⟨szr, szr, szr, szr, ?_⟩
  show _ + (cutG (ns.map ntD) none (some 1)).length ≤ sizeLine ∧ _
  refine ⟨szl (by simp only [List.length_cons, List.length_nil]; omega), szr, szr, szr, szr, szr, ?_⟩
  refine ⟨?_, ?_⟩
  · show (([.tuple [.int k, .int (a - 2), .int (1 + c)], .tuple [.int 0, .int 600, .int 1], .tuple [.int t, .int 5, .int 1]] : List D) ++ cutG (ns.map ntD) none (some 1)).length + _ ≤ sizeLine
    rw [List.length_append]
    exact szl (by simp only [List.length_cons, List.length_nil]; omega)
  refine h (([.tuple [.int k, .int (a - 2), .int (1 + c)], .tuple [.int 0, .int 600, .int 1], .tuple [.int t, .int 5, .int 1]] : List D) ++ cutG (ns.map ntD) none (some 1) ++ [.none, .tuple [.int 0, .int 5], .tuple [.int 0, .int 5, .int 0], .tuple [.bool true, .int 5, .int 1], .list [.int 0, .int 5, .int 1]]) (by simp) (by simp only [List.length_append, List.length_cons, List.length_nil]; omega) fun x mx => ?_
  simp only [List.mem_append, List.mem_cons, List.not_mem_nil, or_false] at mx
  rcases mx with ((rfl | rfl | rfl) | mx) | rfl | rfl | rfl | rfl | rfl
  · exact .inl ⟨(k, a - 2, 1 + c), rfl, ⟨k0, by show k ≤ 7; omega⟩, ⟨by show -9999 ≤ a - 2; omega, by show a - 2 ≤ 200000; omega⟩, by show 0 ≤ 1 + c; omega, by show 1 + c ≤ 3; omega⟩
  · exact .inl ⟨(0, 600, 1), rfl, by decide, by decide, by decide⟩
  · exact .inl ⟨(t, 5, 1), rfl, ⟨by show 0 ≤ t; omega, t2⟩, by show -9999 ≤ (5 : Int) ∧ (5 : Int) ≤ 200000; decide, by show 0 ≤ (1 : Int) ∧ (1 : Int) ≤ 3; decide⟩
  · obtain ⟨n, mn, rfl⟩ := List.mem_map.mp (mem_cutG mx)
    have := b.note n mn
    exact .inl ⟨n, rfl, this.1, this.2.1, by omega, this.2.2.2⟩
  · exact .inr (.inl rfl)
  · exact .inr (.inr (.inl rfl))
  · exact .inl ⟨(0, 5, 0), rfl, by decide, by decide, by decide⟩
  · exact .inr (.inr (.inr (.inl rfl)))
  · exact .inr (.inr (.inr (.inr rfl)))
theorem s10 {L : List D} (hn : L ≠ []) (hl : L.length < 1000) (hm : ∀ x ∈ L, NC ns x) (h : ∀ x, NC ns x → w_law_9 E (e4 o2 H t u ns ms pd qd [o10, o11, some (.d x), o13, o14, o15, o16, o17, o18, o19, o20, o21, o22, o23, o24, o25, o26, o27, o28, some (.d (.list L)), o30, o31, o32])) :
    w_law_10 E (e4 o2 H t u ns ms pd qd [o10, o11, o12, o13, o14, o15, o16, o17, o18, o19, o20, o21, o22, o23, o24, o25, o26, o27, o28, some (.d (.list L)), o30, o31, o32]) :=
  ⟨rfl, L, rfl, hn, by omega, fun x mx => h x (hm x mx)⟩
/-- what the law finds of such a thing -/
def NV (ns : List Nt) (x : D) (v : Bool) : Prop := (v = true ∧ ∃ n : Nt, x = ntD n ∧ n ∉ ns ∧ (0 ≤ n.1 ∧ n.1 ≤ 7) ∧ (-9999 ≤ n.2.1 ∧ n.2.1 ≤ 200000) ∧ (1 ≤ n.2.2 ∧ n.2.2 ≤ 3)) ∨ (v = false ∧ (isNote x = false ∨ ∃ n ∈ ns, x = ntD n))
theorem s9 {x : D} (hx : NC ns x) (h : ∀ v, NV ns x v → w_law_8 E (e4 o2 H t u ns ms pd qd [o10, o11, some (.d x), o13, o14, o15, o16, o17, o18, o19, o20, o21, o22, o23, o24, o25, o26, o27, o28, o29, some (.d (.bool v)), o31, o32])) :
    w_law_9 E (e4 o2 H t u ns ms pd qd [o10, o11, some (.d x), o13, o14, o15, o16, o17, o18, o19, o20, o21, o22, o23, o24, o25, o26, o27, o28, o29, o30, o31, o32]) := by
  rcases hx with ⟨n, rfl, b1, b2, b3⟩ | rfl | rfl | rfl | rfl
  · obtain ⟨a, b, c⟩ := n
    refine ⟨int_dp _ _, ?_⟩
    show (if decide (c > 0) = true then _ else _)
    by_cases hc : c > 0
    · rw [if_pos (decide_eq_true hc)]
      refine ⟨Nat.le_trans (Nat.min_le_left _ _) (Nat.le_trans (depthAll_nts ns) (by decide)), ?_⟩
      have g : ∀ q, q = decide ((a, b, c) ∈ ns) → NV ns (ntD (a, b, c)) (true ^^ q) := fun q e => by
        subst e
        by_cases m : (a, b, c) ∈ ns
        · rw [decide_eq_true m]
          exact .inr ⟨rfl, .inr ⟨_, m, rfl⟩⟩
        · rw [decide_eq_false m]
          exact .inl ⟨rfl, _, rfl, m, b1, b2, by show 1 ≤ c; omega, b3.2⟩
      exact h _ (g _ (in_nts ns (a, b, c)))
    · rw [if_neg (by simpa using hc)]
      refine h false (.inr ⟨rfl, .inl ?_⟩)
      rw [isNote_nt, decide_eq_false (p := 1 ≤ (a, b, c).2.2) (by show ¬ 1 ≤ c; omega), Bool.and_false]
  · exact h false (.inr ⟨rfl, .inl rfl⟩)
  · exact ⟨int_dp _ _, h false (.inr ⟨rfl, .inl rfl⟩)⟩
  · exact ⟨int_dp _ _, h false (.inr ⟨rfl, .inl rfl⟩)⟩
  · exact h false (.inr ⟨rfl, .inl rfl⟩)
/-- what is due of with_note -/
def NW (t : Int) (ns : List Nt) (x d : D) : Prop := (∃ (n : Nt) (m : List Nt), x = ntD n ∧ isNote x = true ∧ n ∉ ns ∧ srt ((ns ++ [n]).map ntD) = m.map ntD ∧ Ordl t m ∧ Sm 26000 3 (scoD t m) ∧ m.length ≤ 200 ∧ d = chkD t m) ∨ ((isNote x = false ∨ ∃ n ∈ ns, x = ntD n) ∧ d = .tuple [.str "nothing"])
theorem s8 {x : D} {v : Bool} (t1 : 1 ≤ t) (t2 : t ≤ 7) (b : Bs4 ns) (asc : ns.Pairwise fun a b => ltN a b = true) (hx : NV ns x v) (h : ∀ d, NW t ns x d → w_law_7 E (e4 o2 H t u ns ms pd qd [o10, o11, some (.d x), o13, o14, o15, o16, o17, o18, o19, o20, o21, some (.d d), o23, o24, o25, o26, o27, o28, o29, some (.d (.bool v)), o31, o32])) :
    w_law_8 E (e4 o2 H t u ns ms pd qd [o10, o11, some (.d x), o13, o14, o15, o16, o17, o18, o19, o20, o21, o22, o23, o24, o25, o26, o27, o28, o29, some (.d (.bool v)), o31, o32]) := by
  rcases hx with ⟨rfl, n, rfl, hm, b1, b2, b3⟩ | ⟨rfl, hn⟩
  · obtain ⟨m, mp, me, ma⟩ := srt_nts (ns ++ [n])
    have bl := b.len
    have ml := mp.length_eq
    rw [List.length_append, List.length_singleton] at ml
    have nd : m.Pairwise fun a b => a ≠ b := by
      refine (mp.pairwise_iff fun {a b} q e => q e.symm).mpr (List.pairwise_append.mpr ⟨asc.imp fun {a b} q e => ?_, List.pairwise_singleton _ _, fun a ma' b mb e => hm ?_⟩)
      · rw [e, ltN_iff] at q
        omega
      · rw [List.mem_singleton.mp mb] at e
        rw [← e]
        exact ma'
    have bn : ∀ q ∈ m, (0 ≤ q.1 ∧ q.1 ≤ 7) ∧ (-9999 ≤ q.2.1 ∧ q.2.1 ≤ 200000) ∧ (1 ≤ q.2.2 ∧ q.2.2 ≤ 3) := fun q mq => by
      rcases List.mem_append.mp (mp.mem_iff.mp mq) with z | z
      · exact b.note q z
      · rw [List.mem_singleton.mp z]
        exact ⟨b1, b2, b3⟩
    have ord : Ordl t m := ⟨t1, fun q mq => ⟨(bn q mq).1.1, (bn q mq).2.2.1⟩, (ma.and nd).imp fun {a b} q => (ltN_no q.1).resolve_right q.2⟩
    have e : ns.map ntD ++ [ntD n] = (ns ++ [n]).map ntD := by rw [List.map_append]; rfl
    refine ⟨szr, ?_⟩
    show (ns.map ntD).length + 1 ≤ sizeLine ∧ (PySem.W.AllAlike (ns.map ntD ++ [ntD n]) ∧ PySem.W.Sortable (ns.map ntD ++ [ntD n]) ∧ ∀ d ∈ ns.map ntD ++ [ntD n], d.depth ≤ 100) ∧ 2 ≤ sizeLine ∧ _ = _ ∧ Φ__law_checked [.d (.tuple [.int t, .tuple (srt (ns.map ntD ++ [ntD n]))])] _ _
    rw [e, me]
    refine ⟨by rw [List.length_map]; exact szl (by omega), alike_nts _, szr, rfl, t, m, rfl, ?_⟩
    have hi : isNote (ntD n) = true := by rw [isNote_nt, decide_eq_true b1.1, decide_eq_true b3.1]; rfl
    exact h _ (.inl ⟨n, m, rfl, hi, hm, me, ord, sm_sco (by omega) (by omega) fun q mq => by have := bn q mq; omega, by omega, rfl⟩)
  · exact ⟨szr, h _ (.inr ⟨hn, rfl⟩)⟩
theorem s7 (hl : ns.length ≤ 900) (h : ∀ k : Int, 0 ≤ k → k ≤ ns.length → w_law_6 E (e4 o2 H t u ns ms pd qd [o10, some (.d (.int k)), o12, o13, o14, o15, o16, o17, o18, o19, o20, o21, o22, o23, o24, o25, o26, o27, o28, o29, o30, o31, o32])) :
    w_law_7 E (e4 o2 H t u ns ms pd qd [o10, o11, o12, o13, o14, o15, o16, o17, o18, o19, o20, o21, o22, o23, o24, o25, o26, o27, o28, o29, o30, o31, o32]) := by
  refine ⟨rfl, (((ns.map ntD).length : Nat) : Int) + 1, rfl, by rw [List.length_map]; omega, by rw [List.length_map]; omega, fun k k0 k1 => ?_⟩
  rw [List.length_map] at k1
  exact h k k0 (by omega)
def goneD (t : Int) (ns : List Nt) (k : Int) : D := if k < ns.length then .tuple [.str "told", scoD t (ns.take k.toNat ++ ns.drop (k.toNat + 1))] else .tuple [.str "nothing"]
theorem s6 {k : Int} (hl : ns.length ≤ 900) (k0 : 0 ≤ k) (h : w_law_5 E (e4 o2 H t u ns ms pd qd [o10, some (.d (.int k)), o12, o13, o14, o15, o16, o17, o18, o19, o20, o21, o22, o23, o24, o25, o26, o27, o28, o29, o30, some (.d (goneD t ns k)), o32])) :
    w_law_6 E (e4 o2 H t u ns ms pd qd [o10, some (.d (.int k)), o12, o13, o14, o15, o16, o17, o18, o19, o20, o21, o22, o23, o24, o25, o26, o27, o28, o29, o30, o31, o32]) := by
  unfold goneD at h
  show (if decide (k < ((ns.map ntD).length : Int)) = true then _ else _)
  rw [List.length_map]
  by_cases e : k < ns.length
  · rw [if_pos (decide_eq_true e)]
    rw [if_pos e] at h
    show (cutG (ns.map ntD) none (some k)).length + (cutG (ns.map ntD) (some (k + 1)) none).length ≤ sizeLine ∧ 2 ≤ sizeLine ∧ 2 ≤ sizeLine ∧ w_law_5 E (e4 o2 H t u ns ms pd qd [o10, some (.d (.int k)), o12, o13, o14, o15, o16, o17, o18, o19, o20, o21, o22, o23, o24, o25, o26, o27, o28, o29, o30, some (.d (.tuple [.str "told", .tuple [.int t, .tuple (cutG (ns.map ntD) none (some k) ++ cutG (ns.map ntD) (some (k + 1)) none)]])), o32])
    rw [cut_to _ k0 (by rw [List.length_map]; omega), cut_from _ (by omega) (by rw [List.length_map]; omega), show (k + 1).toNat = k.toNat + 1 by omega]
    refine ⟨szl (by rw [List.length_take, List.length_drop, List.length_map]; omega), szr, szr, ?_⟩
    unfold scoD at h
    rw [List.map_append, List.map_take, List.map_drop] at h
    exact h
  · rw [if_neg (by simpa using e)]
    rw [if_neg e] at h
    exact ⟨szr, h⟩
theorem s5 {x d : D} (hl : ns.length ≤ 900) (hx : NW t ns x d) (h : w_law_4 E (e4 o2 H t u ns ms pd qd [o10, o11, some (.d x), o13, o14, o15, o16, o17, o18, o19, o20, o21, o22, o23, o24, o25, o26, o27, some (.own [d]), o29, o30, o31, o32])) :
    w_law_5 E (e4 o2 H t u ns ms pd qd [o10, o11, some (.d x), o13, o14, o15, o16, o17, o18, o19, o20, o21, o22, o23, o24, o25, o26, o27, o28, o29, o30, o31, o32]) := by
  rcases hx with ⟨n, m, rfl, hi, hm, me, ord, _, _, rfl⟩ | ⟨hn, rfl⟩
  · refine ⟨rfl, t, ns, _, rfl, hl, .inl ⟨n, rfl, hi, hm, ?_⟩⟩
    rw [me]
    rcases chk_link ord with ⟨e1, e2⟩ | ⟨x, e1, e2⟩
    · refine .inl ⟨e1, szr, ?_⟩
      rw [e2] at h
      exact h
    · refine .inr ⟨x, e1, ?_⟩
      dsimp only
      rw [e2]
      exact ⟨szr, h⟩
  · exact ⟨rfl, t, ns, x, rfl, hl, .inr ⟨hn, szr, h⟩⟩
theorem s4 {k : Int} {L : List D} (hL : L.length ≤ 500) (hl : ns.length ≤ 900) (k0 : 0 ≤ k) (h : w_law_3 E (e4 o2 H t u ns ms pd qd [o10, some (.d (.int k)), o12, o13, o14, o15, o16, o17, o18, o19, o20, o21, o22, o23, o24, o25, o26, o27, some (.own (L ++ [goneD t ns k])), o29, o30, o31, o32])) :
    w_law_4 E (e4 o2 H t u ns ms pd qd [o10, some (.d (.int k)), o12, o13, o14, o15, o16, o17, o18, o19, o20, o21, o22, o23, o24, o25, o26, o27, some (.own L), o29, o30, o31, o32]) := by
  unfold goneD at h
  refine ⟨rfl, t, ns, .int k, rfl, hl, ?_⟩
  by_cases e : k < ns.length
  · rw [if_pos e] at h
    exact .inl ⟨k, rfl, k0, e, szl1 (by omega), h⟩
  · rw [if_neg e] at h
    exact .inr ⟨by simp [inIx]; omega, szl1 (by omega), h⟩
theorem s3 {L : List D} (hL : L.length ≤ 500) (hl : ns.length ≤ 900) (h : w_law_2 E (e4 o2 H t u ns ms pd qd [o10, o11, o12, o13, o14, o15, o16, o17, o18, o19, o20, o21, o22, o23, o24, o25, o26, o27, some (.own (L ++ [.tuple [.str "nothing"]])), o29, o30, o31, o32])) :
    w_law_3 E (e4 o2 H t u ns ms pd qd [o10, o11, o12, o13, o14, o15, o16, o17, o18, o19, o20, o21, o22, o23, o24, o25, o26, o27, some (.own L), o29, o30, o31, o32]) := by
  have go : ∀ d : D, (d = .int (-1) ∨ d = .none ∨ d = .bool true) → Φ_without_note [.d (scoD t ns), .d d] (fun _ => False) (fun x => x = noth) := fun d hd => ⟨t, ns, d, rfl, hl, .inr ⟨by rcases hd with rfl | rfl | rfl <;> rfl, rfl⟩⟩
  have fin : ∀ d : D, (d = .int (-1) ∨ d = .none ∨ d = .bool true) → inIx d ns.length = false := fun d hd => by rcases hd with rfl | rfl | rfl <;> rfl
  have en : ∀ v : D, (v = .bool true ∨ v = .int (-1)) → ∀ x ∈ ([.int (-1), .none, v] : List D), inIx x ns.length = false := fun v hv x mx => by
    simp only [List.mem_cons, List.not_mem_nil, or_false] at mx
    rcases mx with rfl | rfl | rfl
    · rfl
    · rfl
    · rcases hv with rfl | rfl <;> rfl
  show (if decide (((ns.map ntD).length : Int) < 2) = true then _ else _)
  rw [List.length_map]
  by_cases e : (ns.length : Int) < 2
  · rw [if_pos (decide_eq_true e)]
    refine ⟨szr, rfl, _, rfl, by simp, by simp, fun x hx => ?_⟩
    exact ⟨rfl, t, ns, x, rfl, hl, .inr ⟨en _ (.inl rfl) x hx, szl1 (by omega), h⟩⟩
  · rw [if_neg (by simpa using e)]
    refine ⟨szr, rfl, _, rfl, by simp, by simp, fun x hx => ?_⟩
    exact ⟨rfl, t, ns, x, rfl, hl, .inr ⟨en _ (.inr rfl) x hx, szl1 (by omega), h⟩⟩
theorem s2 {L : List D} (hL : L.length ≤ 500) (h : w_law_1 E (e4 o2 H t u ns ms pd qd [o10, o11, o12, o13, o14, o15, o16, o17, o18, o19, o20, o21, o22, o23, o24, o25, o26, o27, some (.own (L ++ [.tuple [.str "nothing"]])), o29, o30, o31, o32])) :
    w_law_2 E (e4 o2 H t u ns ms pd qd [o10, o11, o12, o13, o14, o15, o16, o17, o18, o19, o20, o21, o22, o23, o24, o25, o26, o27, some (.own L), o29, o30, o31, o32]) := by
  have en : ∀ v : D, (v = .bool true ∨ v = .int (t + 3)) → ∀ x ∈ ([.int (-1), .int t, .none, v] : List D), inIx x t = false := fun v hv x mx => by
    simp only [List.mem_cons, List.not_mem_nil, or_false] at mx
    rcases mx with rfl | rfl | rfl | rfl
    · rfl
    · simp [inIx]
    · rfl
    · rcases hv with rfl | rfl
      · rfl
      · simp [inIx]; omega
  show (if decide (t < 2) = true then _ else _)
  by_cases e : t < 2
  · rw [if_pos (decide_eq_true e)]
    refine ⟨szr, rfl, _, rfl, by simp, by simp, fun x hx => ?_⟩
    exact ⟨rfl, t, ns, x, rfl, .inr ⟨en _ (.inl rfl) x hx, szl1 (by omega), h⟩⟩
  · rw [if_neg (by simpa using e)]
    refine ⟨szr, rfl, _, rfl, by simp, by simp, fun x hx => ?_⟩
    exact ⟨rfl, t, ns, x, rfl, .inr ⟨en _ (.inr rfl) x hx, szl1 (by omega), h⟩⟩
theorem s1 {d g : D} (a1 : Sm 27100 5 d) (a2 : Sm 27100 5 g) (h : ∀ o28 : O, E.nx (e4 o2 H t u ns ms pd qd [o10, o11, o12, o13, o14, o15, o16, o17, o18, o19, o20, o21, some (.d d), o23, o24, o25, o26, o27, o28, o29, o30, some (.d g), o32])) :
    w_law_1 E (e4 o2 H t u ns ms pd qd [o10, o11, o12, o13, o14, o15, o16, o17, o18, o19, o20, o21, some (.d d), o23, o24, o25, o26, o27, some (.own [d, g, .tuple [.str "nothing"], .tuple [.str "nothing"]]), o29, o30, some (.d g), o32]) := by
  refine ⟨szr, rfl, _, rfl, by simp, by simp, fun x hx => ?_⟩
  have hn : isNum x = false := by
    simp only [List.mem_cons, List.not_mem_nil, or_false] at hx
    rcases hx with rfl | rfl | rfl <;> rfl
  have no : Sm 8 1 (.tuple [.str "nothing"]) → True := fun _ => trivial
  have nt : Sm 20 1 (.tuple [.str "nothing"]) := ((SmAll.cons (smW "nothing") .nil).tup).mono (by decide) (by decide)
  refine ⟨rfl, t, ns, x, rfl, .inl ⟨hn, szr, ?_⟩⟩
  refine ⟨szr, szr, szr, ⟨⟨by decide, by decide, szr⟩, szr, ?_⟩⟩
  exact ⟨rfl, .list [d, g, .tuple [.str "nothing"], .tuple [.str "nothing"], .tuple [.str "nothing"]], rfl, ⟨60000, 7, by decide, by decide, ((SmAll.cons a1 (SmAll.cons a2 (SmAll.cons nt (SmAll.cons nt (SmAll.cons nt .nil))))).list).mono (by decide) (by decide)⟩, rfl, h _⟩
end
theorem ltN_later (s : Int) (a b : Nt) : ltN (laterN s a) (laterN s b) = ltN a b := by
  rw [Bool.eq_iff_iff, ltN_iff, ltN_iff]
  unfold laterN
  simp only
  omega
theorem ltN_up (s : Int) (a b : Nt) : ltN (upN s a) (upN s b) = ltN a b := by
  rw [Bool.eq_iff_iff, ltN_iff, ltN_iff]
  unfold upN
  simp only
  omega
theorem great_ok (u : Int) (m : List Nt) (ord : Ordl (33 + u) ([(0, 5, 33)] ++ m.map (laterN 33))) : (sFault (scoD (33 + u) ([(0, 5, 33)] ++ m.map (laterN 33))) = none ∧ chkD (33 + u) ([(0, 5, 33)] ++ m.map (laterN 33)) = .tuple [.str "told", scoD (33 + u) ([(0, 5, 33)] ++ m.map (laterN 33))]) ∨ ∃ e, sFault (scoD (33 + u) ([(0, 5, 33)] ++ m.map (laterN 33))) = some e ∧ tells e [("BadScore", "score", ["number", "fault"]), ("Nothing", "nothing", []), ("TooLarge", "large", ["what", "limit"])] = some (chkD (33 + u) ([(0, 5, 33)] ++ m.map (laterN 33))) := chk_link ord
theorem law_end {o1 o2 o3 o4 o5 o6 o7 o8 o9 o10 o11 o12 o13 o14 o15 o16 o17 o18 o19 o20 o21 o22 o23 o24 o25 o26 o27 o28 o29 o30 o31 o32 : O} :
    w_law_34 lawEnd (none :: o1 :: o2 :: o3 :: o4 :: [o5, o6, o7, o8, o9, o10, o11, o12, o13, o14, o15, o16, o17, o18, o19, o20, o21, o22, o23, o24, o25, o26, o27, o28, o29, o30, o31, o32]) := by
  refine ⟨szr, szr, szr, ?_⟩
  refine ⟨szr, szr, ?_⟩
  refine ⟨rfl, 33, [(0, 5, 33)], 32, [], rfl, by decide, ?_⟩
  have c1 : chkD (33 + 32) ([(0, 5, 33)] ++ ([] : List Nt).map (laterN 33)) = .tuple [.str "large", .str "ticks", .int 64] := by
    unfold chkD
    rw [if_pos (by decide)]
  have o1 : Ordl (33 + 32) ([(0, 5, 33)] ++ ([] : List Nt).map (laterN 33)) := ⟨by decide, by simp, by simp⟩
  have smL : Sm 100 1 (.tuple [.str "large", .str "ticks", .int 64]) := ((SmAll.cons (smW "large") (SmAll.cons (smW "ticks") (SmAll.cons (smI (i := 64) (by decide)) .nil))).tup).mono (by decide) (by decide)
  rcases great_ok 32 [] o1 with ⟨e1, e2⟩ | ⟨x, e1, e2⟩
  · rw [c1] at e2
    cases e2
  rw [c1] at e2
  refine .inr ⟨x, e1, ?_⟩
  dsimp only
  rw [e2]
  refine ⟨szr, by decide, ?_⟩
  show (if (!PyData.eqv (.tuple [.str "large", .str "ticks", .int 64]) (.tuple [.str "large", .str "ticks", .int 64])) = true then _ else _)
  rw [smL.eqv]
  refine ⟨szr, szr, szr, ?_⟩
  refine ⟨rfl, 33, [(0, 5, 33)], 31, [(0, 5, 31)], rfl, by decide, ?_⟩
  have o2 : Ordl (33 + 31) ([(0, 5, 33)] ++ ([(0, 5, 31)] : List Nt).map (laterN 33)) := ⟨by decide, by decide, by decide⟩
  have c2 : chkD (33 + 31) ([(0, 5, 33)] ++ ([(0, 5, 31)] : List Nt).map (laterN 33)) = .tuple [.str "told", scoD (33 + 31) ([(0, 5, 33)] ++ ([(0, 5, 31)] : List Nt).map (laterN 33))] := by
    unfold chkD
    rw [if_neg (by decide), if_neg (by decide)]
    rfl
  have sm2 : Sm 26000 3 (scoD (33 + 31) ([(0, 5, 33)] ++ ([(0, 5, 31)] : List Nt).map (laterN 33))) := sm_sco (by decide) (by decide) (by decide)
  rcases great_ok 31 [(0, 5, 31)] o2 with ⟨e1, _⟩ | ⟨x, e1, e2⟩
  · refine .inl ⟨e1, ?_⟩
    refine ⟨szr, szr, szr, szr, szr, by decide, ?_⟩
    have q := (((SmAll.cons (smW "told") (SmAll.cons sm2 .nil)).tup)).eqv
    show Val.d (.bool (PyData.eqv (.tuple [.str "told", scoD (33 + 31) ([(0, 5, 33)] ++ ([(0, 5, 31)] : List Nt).map (laterN 33))]) (.tuple [.str "told", scoD (33 + 31) ([(0, 5, 33)] ++ ([(0, 5, 31)] : List Nt).map (laterN 33))]))) = _
    rw [q]
  · exfalso
    have : sFault (scoD (33 + 31) ([(0, 5, 33)] ++ ([(0, 5, 31)] : List Nt).map (laterN 33))) = none := by
      rw [sFault_sco o2.form]
      rfl
    rw [this] at e1
    cases e1
theorem v_law : w_law lawEnd (lawStart N_law) := by
  show w_law lawEnd (none :: some .bag :: none :: none :: none :: [none, none, none, none, none, none, none, none, none, none, none, none, none, none, none, none, none, none, none, none, none, none, none, none, none, none, none, none])
  unfold w_law
  refine ⟨⟨by decide, by decide⟩, szr, ?_⟩
  refine forW_inv (fun ds ρ => ∃ o2 o3 o4 o5 o6 o7 o8 o9 o10 o11 o12 o13 o14 o15 o16 o17 o18 o19 o20 o21 o22 o23 o24 o25 o26 o27 o28 o29 o30 o31, ρ = (none :: some .bag :: o2 :: o3 :: o4 :: [o5, o6, o7, o8, o9, o10, o11, o12, o13, o14, o15, o16, o17, o18, o19, o20, o21, o22, o23, o24, o25, o26, o27, o28, o29, o30, o31, none]))
    (fun d ds ρ K ⟨o2, o3, o4, o5, o6, o7, o8, o9, o10, o11, o12, o13, o14, o15, o16, o17, o18, o19, o20, o21, o22, o23, o24, o25, o26, o27, o28, o29, o30, o31, e⟩ hk => ?_) (fun ρ ⟨o2, o3, o4, o5, o6, o7, o8, o9, o10, o11, o12, o13, o14, o15, o16, o17, o18, o19, o20, o21, o22, o23, o24, o25, o26, o27, o28, o29, o30, o31, e⟩ => ?_) _ _ ⟨_, _, _, _, _, _, _, _, _, _, _, _, _, _, _, _, _, _, _, _, _, _, _, _, _, _, _, _, _, _, rfl⟩
  · subst e
    exact law_end
  · subst e
    refine ⟨rfl, 3, 9, rfl, by decide, by decide, by decide, by decide, fun H hd => ?_⟩
    refine ⟨rfl, H, 7, 3, hd.ok, rfl, by decide, by decide, by decide, by decide, fun t ns first ss st dp => ?_⟩
    refine ⟨rfl, ?_⟩
    refine ⟨rfl, H, 5, 2, hd.ok, rfl, by decide, by decide, by decide, by decide, fun u ms first' ss' st' dq => ?_⟩
    refine ⟨rfl, rfl, ?_⟩
    have t1 := dp.t0
    have t2 := dp.t1
    have u1 := dq.t0
    have u2 := dq.t1
    have bs : Bs4 ns := ⟨by have := dp.few; omega, fun n mn => by have := dp.note n mn; omega⟩
    have bms : ∀ n ∈ ms, (0 ≤ n.1 ∧ n.1 ≤ 7) ∧ (-9999 ≤ n.2.1 ∧ n.2.1 ≤ 200000) ∧ (1 ≤ n.2.2 ∧ n.2.2 ≤ 3) := fun n mn => by have := dq.note n mn; omega
    have nl := bs.len
    have ml : ms.length ≤ 30 := by have := dq.few; omega
    refine s29 t1 (by omega) (s28 t1 (by omega) (s27 (by omega) (s26 t1 fun M he hm => s25 t1 (by omega) he hm fun k hl => s24 t1 (by omega) nl (s23 t1 (by omega) nl (fun n mn => by have := bs.note n mn; omega) hl (s22 (s21 bs (s20 fun s sa sb => s19 (s18 t1 (by omega) fun k k0 k1 => s17 (s16 (by omega) ?_)))))))))
    have ord1 : Ordl t (ns.map (upN s)) := ⟨t1, fun n mn => by
      obtain ⟨q, mq, rfl⟩ := List.mem_map.mp mn
      have := bs.note q mq
      exact ⟨this.1.1, this.2.2.1⟩, by rw [List.pairwise_map]; exact dp.asc.imp fun {a b} z => by rw [ltN_up]; exact z⟩
    have ord2 : Ordl (t + u) (ns ++ ms.map (laterN t)) := ⟨by omega, fun n mn => by
      rcases List.mem_append.mp mn with m | m
      · have := bs.note n m
        exact ⟨this.1.1, this.2.2.1⟩
      · obtain ⟨q, mq, rfl⟩ := List.mem_map.mp m
        have := bms q mq
        exact ⟨by show 0 ≤ q.1 + t; omega, this.2.2.1⟩, List.pairwise_append.mpr ⟨dp.asc, by rw [List.pairwise_map]; exact dq.asc.imp fun {a b} z => by rw [ltN_later]; exact z, fun a ma b mb => by
        obtain ⟨q, mq, rfl⟩ := List.mem_map.mp mb
        have h1 := dp.note a ma
        have h2 := bms q mq
        rw [ltN_iff]
        exact .inl (by show a.1 < q.1 + t; omega)⟩⟩
    have sm1 : Sm 27000 4 (chkD t (ns.map (upN s))) := sm_chk (sm_sco (by omega) (by rw [List.length_map]; omega) fun n mn => by
      obtain ⟨q, mq, rfl⟩ := List.mem_map.mp mn
      have := bs.note q mq
      unfold upN
      simp only
      omega) (by rw [List.length_map]; omega)
    have sm2 : Sm 27000 4 (latD t k ns) := (sm_sco (by omega) (by rw [List.length_map]; exact Nat.le_trans (List.length_filter_le _ _) (by omega)) fun n mn => by
      obtain ⟨q, mq, rfl⟩ := List.mem_map.mp mn
      have := bs.note q (List.mem_filter.mp mq).1
      unfold earlierN
      simp only
      omega).mono (by decide) (by decide)
    have sm3 : Sm 27000 4 (chkD (t + u) (ns ++ ms.map (laterN t))) := sm_chk (sm_sco (by omega) (by rw [List.length_append, List.length_map]; omega) fun n mn => by
      rcases List.mem_append.mp mn with m | m
      · have := bs.note n m
        omega
      · obtain ⟨q, mq, rfl⟩ := List.mem_map.mp m
        have := bms q mq
        unfold laterN
        simp only
        omega) (by rw [List.length_append, List.length_map]; omega)
    refine s15 rfl ord1 (s14 (by simp) k0 k1 (s13 (by simp) (by omega) rfl ord2 (s12 sm1 sm2 sm3 (s11 bs t1 t2 k0 k1 fun L hn hl hm => s10 hn hl hm fun x hx => s9 hx fun v hv => s8 t1 t2 bs dp.asc hv fun d hw => s7 (by omega) fun j j0 j1 => s6 (by omega) j0 (s5 (by omega) hw (s4 (by simp) (by omega) j0 (s3 (by simp) (by omega) (s2 (by simp) (s1 ?_ ?_ fun o28 => hk _ ⟨_, _, _, _, _, _, _, _, _, _, _, _, _, _, _, _, _, _, _, _, _, _, _, _, _, _, _, _, _, _, rfl⟩)))))))))
    · rcases hw with ⟨n, m, _, _, _, _, _, sm, ml', rfl⟩ | ⟨_, rfl⟩
      · exact (sm_chk sm ml').mono (by decide) (by decide)
      · exact ((SmAll.cons (smW "nothing") .nil).tup).mono (by decide) (by decide)
    · unfold goneD
      split
      · refine ((SmAll.cons (smW "told") (SmAll.cons (sm_sco (t := t) (by omega) ?_ fun n mn => ?_) .nil)).tup).mono (by decide) (by decide)
        · rw [List.length_append, List.length_take, List.length_drop]; omega
        · have mn' : n ∈ ns := by
            rcases List.mem_append.mp mn with m | m
            · exact List.mem_of_mem_take m
            · exact List.mem_of_mem_drop m
          have := bs.note n mn'
          omega
      · exact ((SmAll.cons (smW "nothing") .nil).tup).mono (by decide) (by decide)
end Pd

namespace Pd
open PySem PySem.Spec PyProof.Rows L2
theorem one_ref {x : Str} {mg : Str → Option Value} {a b : Addr} (h : mg x = some (.ref a)) (h2 : mg x = some (.ref b)) : a = b := by
  rw [h] at h2
  cases h2
  rfl
abbrev st__law_bag : Stmt := top 32
theorem sc__law_bag : FnScope ["script", "cell"] ["script"] (defScope st__law_bag) := ⟨rfl, rfl, rfl, by decide +kernel, rfl, by decide +kernel, by decide +kernel⟩
set_option maxHeartbeats 4000000 in
theorem all_mk {l : PySem.W.OpenLaw} {w : World} {K : PySem.W.Frag} {h : Heap} {mg : Str → Option Value} {fa : Addr} {ts : List Addr} {f_is_number f_is_index f_is_sized f_is_tuple_of f_is_note f_is_score_form f_check_note f_checked_score f_last_tick f_rings_at f_begins_at f_pitches_at f_raised f_from_tick f_joined f_with_note f_without_note f_loudest f_span_of f__law_take f__law_some f__law_mixed f__law_alike f__law_harp f__law_letter f__law_open f__law_pitch f__law_setting f__law_fits f__law_left_many f__law_last f__law_moved f__law_drawn_part f__law_checked f__law_raised f__law_bag f_law : Addr} {oc_is_number oc_is_index oc_is_sized oc_is_tuple_of oc_is_note oc_is_score_form oc_check_note oc_checked_score oc_last_tick oc_rings_at oc_begins_at oc_pitches_at oc_raised oc_from_tick oc_joined oc_with_note oc_without_note oc_loudest oc_span_of oc__law_take oc__law_some oc__law_mixed oc__law_alike oc__law_harp oc__law_letter oc__law_open oc__law_pitch oc__law_setting oc__law_fits oc__law_left_many oc__law_last oc__law_moved oc__law_drawn_part oc__law_checked oc__law_raised oc__law_bag oc_law : Value} {kV_is_number kV_is_index kV_is_sized kV_is_tuple_of kV_is_note kV_is_score_form kV_check_note kV_checked_score kV_last_tick kV_rings_at kV_begins_at kV_pitches_at kV_raised kV_from_tick kV_joined kV_with_note kV_without_note kV_loudest kV_span_of kV__law_take kV__law_some kV__law_mixed kV__law_alike kV__law_harp kV__law_letter kV__law_open kV__law_pitch kV__law_setting kV__law_fits kV__law_left_many kV__law_last kV__law_moved kV__law_drawn_part kV__law_checked kV__law_raised kV__law_bag kV_law : Value} {dc_is_number dc_is_index dc_is_sized dc_is_tuple_of dc_is_note dc_is_score_form dc_check_note dc_checked_score dc_last_tick dc_rings_at dc_begins_at dc_pitches_at dc_raised dc_from_tick dc_joined dc_with_note dc_without_note dc_loudest dc_span_of dc__law_take dc__law_some dc__law_mixed dc__law_alike dc__law_harp dc__law_letter dc__law_open dc__law_pitch dc__law_setting dc__law_fits dc__law_left_many dc__law_last dc__law_moved dc__law_drawn_part dc__law_checked dc__law_raised dc__law_bag dc_law : Value} {pm_is_number pm_is_index pm_is_sized pm_is_tuple_of pm_is_note pm_is_score_form pm_check_note pm_checked_score pm_last_tick pm_rings_at pm_begins_at pm_pitches_at pm_raised pm_from_tick pm_joined pm_with_note pm_without_note pm_loudest pm_span_of pm__law_take pm__law_some pm__law_mixed pm__law_alike pm__law_harp pm__law_letter pm__law_open pm__law_pitch pm__law_setting pm__law_fits pm__law_left_many pm__law_last pm__law_moved pm__law_drawn_part pm__law_checked pm__law_raised pm__law_bag pm_law : Value} {ct_is_number ct_is_index ct_is_sized ct_is_tuple_of ct_is_note ct_is_score_form ct_check_note ct_checked_score ct_last_tick ct_rings_at ct_begins_at ct_pitches_at ct_raised ct_from_tick ct_joined ct_with_note ct_without_note ct_loudest ct_span_of ct__law_take ct__law_some ct__law_mixed ct__law_alike ct__law_harp ct__law_letter ct__law_open ct__law_pitch ct__law_setting ct__law_fits ct__law_left_many ct__law_last ct__law_moved ct__law_drawn_part ct__law_checked ct__law_raised ct__law_bag ct_law : Value} {od_is_number od_is_index od_is_sized od_is_tuple_of od_is_note od_is_score_form od_check_note od_checked_score od_last_tick od_rings_at od_begins_at od_pitches_at od_raised od_from_tick od_joined od_with_note od_without_note od_loudest od_span_of od__law_take od__law_some od__law_mixed od__law_alike od__law_harp od__law_letter od__law_open od__law_pitch od__law_setting od__law_fits od__law_left_many od__law_last od__law_moved od__law_drawn_part od__law_checked od__law_raised od__law_bag od_law : Option Addr} {an_is_number an_is_index an_is_sized an_is_tuple_of an_is_note an_is_score_form an_check_note an_checked_score an_last_tick an_rings_at an_begins_at an_pitches_at an_raised an_from_tick an_joined an_with_note an_without_note an_loudest an_span_of an__law_take an__law_some an__law_mixed an__law_alike an__law_harp an__law_letter an__law_open an__law_pitch an__law_setting an__law_fits an__law_left_many an__law_last an__law_moved an__law_drawn_part an__law_checked an__law_raised an__law_bag an_law : Option Addr} {sl_is_number sl_is_index sl_is_sized sl_is_tuple_of sl_is_note sl_is_score_form sl_check_note sl_checked_score sl_last_tick sl_rings_at sl_begins_at sl_pitches_at sl_raised sl_from_tick sl_joined sl_with_note sl_without_note sl_loudest sl_span_of sl__law_take sl__law_some sl__law_mixed sl__law_alike sl__law_harp sl__law_letter sl__law_open sl__law_pitch sl__law_setting sl__law_fits sl__law_left_many sl__law_last sl__law_moved sl__law_drawn_part sl__law_checked sl__law_raised sl__law_bag sl_law : Array (Option Value)} {cd_is_number cd_is_index cd_is_sized cd_is_tuple_of cd_is_note cd_is_score_form cd_check_note cd_checked_score cd_last_tick cd_rings_at cd_begins_at cd_pitches_at cd_raised cd_from_tick cd_joined cd_with_note cd_without_note cd_loudest cd_span_of cd__law_take cd__law_some cd__law_mixed cd__law_alike cd__law_harp cd__law_letter cd__law_open cd__law_pitch cd__law_setting cd__law_fits cd__law_left_many cd__law_last cd__law_moved cd__law_drawn_part cd__law_checked cd__law_raised cd__law_bag : Value} {cc_law pt_law : Addr} {C_BadScore C_Nothing C_TooLarge : Addr} {xfI_BadScore xcda_BadScore xcc_BadScore : Addr} {xq_BadScore : Str} {xkV_BadScore xdoc_BadScore xpm_BadScore xct_BadScore xoc_BadScore xccl_BadScore xcl_BadScore : Value} {xan_BadScore xod_BadScore xcdd_BadScore xcld_BadScore : Option Addr} {xosl_BadScore xccs_BadScore xcsl_BadScore : Array (Option Value)} {xvs_BadScore : Array Value} {xfile_BadScore : Str} {xtf_BadScore : Tok} {xcd_BadScore : ClassData} {xfI_TooLarge xcda_TooLarge xcc_TooLarge : Addr} {xq_TooLarge : Str} {xkV_TooLarge xdoc_TooLarge xpm_TooLarge xct_TooLarge xoc_TooLarge xccl_TooLarge xcl_TooLarge : Value} {xan_TooLarge xod_TooLarge xcdd_TooLarge xcld_TooLarge : Option Addr} {xosl_TooLarge xccs_TooLarge xcsl_TooLarge : Array (Option Value)} {xvs_TooLarge : Array Value} {xfile_TooLarge : Str} {xtf_TooLarge : Tok} {xcd_TooLarge : ClassData} {u_LEAST_PITCH : Value} {u_MOST_NOTES : Value} {u_MOST_PITCH : Value} {u_MOST_TICKS : Value} (kin : K.In h) (G : h.Ns mainGlobals mg) (hfa : mg "law" = some (.ref fa)) (T : ∀ P ∈ ts, h.get? P = some tabO)
    (a_is_number : PySem.W.nsIn K mainGlobals "is_number" = some (some (.ref f_is_number)))
    (l_is_number : K.lookup f_is_number = some ⟨oc_is_number, od_is_number, .func (PySem.W.fnOf "is_number" "is_number" (defArgs st_is_number) (defBody st_is_number) (defScope st_is_number) .none kV_is_number dc_is_number pm_is_number an_is_number cd_is_number ct_is_number), sl_is_number⟩)
    (c_is_number : PySem.W.codeIn K cd_is_number "is_number" = true)
    (k_is_number : PySem.W.keepIn K (.ref f_is_number) = true)
    (a_is_index : PySem.W.nsIn K mainGlobals "is_index" = some (some (.ref f_is_index)))
    (l_is_index : K.lookup f_is_index = some ⟨oc_is_index, od_is_index, .func (PySem.W.fnOf "is_index" "is_index" (defArgs st_is_index) (defBody st_is_index) (defScope st_is_index) .none kV_is_index dc_is_index pm_is_index an_is_index cd_is_index ct_is_index), sl_is_index⟩)
    (c_is_index : PySem.W.codeIn K cd_is_index "is_index" = true)
    (k_is_index : PySem.W.keepIn K (.ref f_is_index) = true)
    (a_is_sized : PySem.W.nsIn K mainGlobals "is_sized" = some (some (.ref f_is_sized)))
    (l_is_sized : K.lookup f_is_sized = some ⟨oc_is_sized, od_is_sized, .func (PySem.W.fnOf "is_sized" "is_sized" (defArgs st_is_sized) (defBody st_is_sized) (defScope st_is_sized) .none kV_is_sized dc_is_sized pm_is_sized an_is_sized cd_is_sized ct_is_sized), sl_is_sized⟩)
    (c_is_sized : PySem.W.codeIn K cd_is_sized "is_sized" = true)
    (k_is_sized : PySem.W.keepIn K (.ref f_is_sized) = true)
    (a_is_tuple_of : PySem.W.nsIn K mainGlobals "is_tuple_of" = some (some (.ref f_is_tuple_of)))
    (l_is_tuple_of : K.lookup f_is_tuple_of = some ⟨oc_is_tuple_of, od_is_tuple_of, .func (PySem.W.fnOf "is_tuple_of" "is_tuple_of" (defArgs st_is_tuple_of) (defBody st_is_tuple_of) (defScope st_is_tuple_of) .none kV_is_tuple_of dc_is_tuple_of pm_is_tuple_of an_is_tuple_of cd_is_tuple_of ct_is_tuple_of), sl_is_tuple_of⟩)
    (c_is_tuple_of : PySem.W.codeIn K cd_is_tuple_of "is_tuple_of" = true)
    (k_is_tuple_of : PySem.W.keepIn K (.ref f_is_tuple_of) = true)
    (a_is_note : PySem.W.nsIn K mainGlobals "is_note" = some (some (.ref f_is_note)))
    (l_is_note : K.lookup f_is_note = some ⟨oc_is_note, od_is_note, .func (PySem.W.fnOf "is_note" "is_note" (defArgs st_is_note) (defBody st_is_note) (defScope st_is_note) .none kV_is_note dc_is_note pm_is_note an_is_note cd_is_note ct_is_note), sl_is_note⟩)
    (c_is_note : PySem.W.codeIn K cd_is_note "is_note" = true)
    (k_is_note : PySem.W.keepIn K (.ref f_is_note) = true)
    (a_is_score_form : PySem.W.nsIn K mainGlobals "is_score_form" = some (some (.ref f_is_score_form)))
    (l_is_score_form : K.lookup f_is_score_form = some ⟨oc_is_score_form, od_is_score_form, .func (PySem.W.fnOf "is_score_form" "is_score_form" (defArgs st_is_score_form) (defBody st_is_score_form) (defScope st_is_score_form) .none kV_is_score_form dc_is_score_form pm_is_score_form an_is_score_form cd_is_score_form ct_is_score_form), sl_is_score_form⟩)
    (c_is_score_form : PySem.W.codeIn K cd_is_score_form "is_score_form" = true)
    (k_is_score_form : PySem.W.keepIn K (.ref f_is_score_form) = true)
    (a_check_note : PySem.W.nsIn K mainGlobals "check_note" = some (some (.ref f_check_note)))
    (l_check_note : K.lookup f_check_note = some ⟨oc_check_note, od_check_note, .func (PySem.W.fnOf "check_note" "check_note" (defArgs st_check_note) (defBody st_check_note) (defScope st_check_note) .none kV_check_note dc_check_note pm_check_note an_check_note cd_check_note ct_check_note), sl_check_note⟩)
    (c_check_note : PySem.W.codeIn K cd_check_note "check_note" = true)
    (k_check_note : PySem.W.keepIn K (.ref f_check_note) = true)
    (a_checked_score : PySem.W.nsIn K mainGlobals "checked_score" = some (some (.ref f_checked_score)))
    (l_checked_score : K.lookup f_checked_score = some ⟨oc_checked_score, od_checked_score, .func (PySem.W.fnOf "checked_score" "checked_score" (defArgs st_checked_score) (defBody st_checked_score) (defScope st_checked_score) .none kV_checked_score dc_checked_score pm_checked_score an_checked_score cd_checked_score ct_checked_score), sl_checked_score⟩)
    (c_checked_score : PySem.W.codeIn K cd_checked_score "checked_score" = true)
    (k_checked_score : PySem.W.keepIn K (.ref f_checked_score) = true)
    (a_last_tick : PySem.W.nsIn K mainGlobals "last_tick" = some (some (.ref f_last_tick)))
    (l_last_tick : K.lookup f_last_tick = some ⟨oc_last_tick, od_last_tick, .func (PySem.W.fnOf "last_tick" "last_tick" (defArgs st_last_tick) (defBody st_last_tick) (defScope st_last_tick) .none kV_last_tick dc_last_tick pm_last_tick an_last_tick cd_last_tick ct_last_tick), sl_last_tick⟩)
    (c_last_tick : PySem.W.codeIn K cd_last_tick "last_tick" = true)
    (k_last_tick : PySem.W.keepIn K (.ref f_last_tick) = true)
    (a_rings_at : PySem.W.nsIn K mainGlobals "rings_at" = some (some (.ref f_rings_at)))
    (l_rings_at : K.lookup f_rings_at = some ⟨oc_rings_at, od_rings_at, .func (PySem.W.fnOf "rings_at" "rings_at" (defArgs st_rings_at) (defBody st_rings_at) (defScope st_rings_at) .none kV_rings_at dc_rings_at pm_rings_at an_rings_at cd_rings_at ct_rings_at), sl_rings_at⟩)
    (c_rings_at : PySem.W.codeIn K cd_rings_at "rings_at" = true)
    (k_rings_at : PySem.W.keepIn K (.ref f_rings_at) = true)
    (a_begins_at : PySem.W.nsIn K mainGlobals "begins_at" = some (some (.ref f_begins_at)))
    (l_begins_at : K.lookup f_begins_at = some ⟨oc_begins_at, od_begins_at, .func (PySem.W.fnOf "begins_at" "begins_at" (defArgs st_begins_at) (defBody st_begins_at) (defScope st_begins_at) .none kV_begins_at dc_begins_at pm_begins_at an_begins_at cd_begins_at ct_begins_at), sl_begins_at⟩)
    (c_begins_at : PySem.W.codeIn K cd_begins_at "begins_at" = true)
    (k_begins_at : PySem.W.keepIn K (.ref f_begins_at) = true)
    (a_pitches_at : PySem.W.nsIn K mainGlobals "pitches_at" = some (some (.ref f_pitches_at)))
    (l_pitches_at : K.lookup f_pitches_at = some ⟨oc_pitches_at, od_pitches_at, .func (PySem.W.fnOf "pitches_at" "pitches_at" (defArgs st_pitches_at) (defBody st_pitches_at) (defScope st_pitches_at) .none kV_pitches_at dc_pitches_at pm_pitches_at an_pitches_at cd_pitches_at ct_pitches_at), sl_pitches_at⟩)
    (c_pitches_at : PySem.W.codeIn K cd_pitches_at "pitches_at" = true)
    (k_pitches_at : PySem.W.keepIn K (.ref f_pitches_at) = true)
    (a_raised : PySem.W.nsIn K mainGlobals "raised" = some (some (.ref f_raised)))
    (l_raised : K.lookup f_raised = some ⟨oc_raised, od_raised, .func (PySem.W.fnOf "raised" "raised" (defArgs st_raised) (defBody st_raised) (defScope st_raised) .none kV_raised dc_raised pm_raised an_raised cd_raised ct_raised), sl_raised⟩)
    (c_raised : PySem.W.codeIn K cd_raised "raised" = true)
    (k_raised : PySem.W.keepIn K (.ref f_raised) = true)
    (a_from_tick : PySem.W.nsIn K mainGlobals "from_tick" = some (some (.ref f_from_tick)))
    (l_from_tick : K.lookup f_from_tick = some ⟨oc_from_tick, od_from_tick, .func (PySem.W.fnOf "from_tick" "from_tick" (defArgs st_from_tick) (defBody st_from_tick) (defScope st_from_tick) .none kV_from_tick dc_from_tick pm_from_tick an_from_tick cd_from_tick ct_from_tick), sl_from_tick⟩)
    (c_from_tick : PySem.W.codeIn K cd_from_tick "from_tick" = true)
    (k_from_tick : PySem.W.keepIn K (.ref f_from_tick) = true)
    (a_joined : PySem.W.nsIn K mainGlobals "joined" = some (some (.ref f_joined)))
    (l_joined : K.lookup f_joined = some ⟨oc_joined, od_joined, .func (PySem.W.fnOf "joined" "joined" (defArgs st_joined) (defBody st_joined) (defScope st_joined) .none kV_joined dc_joined pm_joined an_joined cd_joined ct_joined), sl_joined⟩)
    (c_joined : PySem.W.codeIn K cd_joined "joined" = true)
    (k_joined : PySem.W.keepIn K (.ref f_joined) = true)
    (a_with_note : PySem.W.nsIn K mainGlobals "with_note" = some (some (.ref f_with_note)))
    (l_with_note : K.lookup f_with_note = some ⟨oc_with_note, od_with_note, .func (PySem.W.fnOf "with_note" "with_note" (defArgs st_with_note) (defBody st_with_note) (defScope st_with_note) .none kV_with_note dc_with_note pm_with_note an_with_note cd_with_note ct_with_note), sl_with_note⟩)
    (c_with_note : PySem.W.codeIn K cd_with_note "with_note" = true)
    (k_with_note : PySem.W.keepIn K (.ref f_with_note) = true)
    (a_without_note : PySem.W.nsIn K mainGlobals "without_note" = some (some (.ref f_without_note)))
    (l_without_note : K.lookup f_without_note = some ⟨oc_without_note, od_without_note, .func (PySem.W.fnOf "without_note" "without_note" (defArgs st_without_note) (defBody st_without_note) (defScope st_without_note) .none kV_without_note dc_without_note pm_without_note an_without_note cd_without_note ct_without_note), sl_without_note⟩)
    (c_without_note : PySem.W.codeIn K cd_without_note "without_note" = true)
    (k_without_note : PySem.W.keepIn K (.ref f_without_note) = true)
    (a_loudest : PySem.W.nsIn K mainGlobals "loudest" = some (some (.ref f_loudest)))
    (l_loudest : K.lookup f_loudest = some ⟨oc_loudest, od_loudest, .func (PySem.W.fnOf "loudest" "loudest" (defArgs st_loudest) (defBody st_loudest) (defScope st_loudest) .none kV_loudest dc_loudest pm_loudest an_loudest cd_loudest ct_loudest), sl_loudest⟩)
    (c_loudest : PySem.W.codeIn K cd_loudest "loudest" = true)
    (k_loudest : PySem.W.keepIn K (.ref f_loudest) = true)
    (a_span_of : PySem.W.nsIn K mainGlobals "span_of" = some (some (.ref f_span_of)))
    (l_span_of : K.lookup f_span_of = some ⟨oc_span_of, od_span_of, .func (PySem.W.fnOf "span_of" "span_of" (defArgs st_span_of) (defBody st_span_of) (defScope st_span_of) .none kV_span_of dc_span_of pm_span_of an_span_of cd_span_of ct_span_of), sl_span_of⟩)
    (c_span_of : PySem.W.codeIn K cd_span_of "span_of" = true)
    (k_span_of : PySem.W.keepIn K (.ref f_span_of) = true)
    (a__law_take : PySem.W.nsIn K mainGlobals "_law_take" = some (some (.ref f__law_take)))
    (l__law_take : K.lookup f__law_take = some ⟨oc__law_take, od__law_take, .func (PySem.W.fnOf "_law_take" "_law_take" (defArgs st__law_take) (defBody st__law_take) (defScope st__law_take) .none kV__law_take dc__law_take pm__law_take an__law_take cd__law_take ct__law_take), sl__law_take⟩)
    (c__law_take : PySem.W.codeIn K cd__law_take "_law_take" = true)
    (k__law_take : PySem.W.keepIn K (.ref f__law_take) = true)
    (a__law_some : PySem.W.nsIn K mainGlobals "_law_some" = some (some (.ref f__law_some)))
    (l__law_some : K.lookup f__law_some = some ⟨oc__law_some, od__law_some, .func (PySem.W.fnOf "_law_some" "_law_some" (defArgs st__law_some) (defBody st__law_some) (defScope st__law_some) .none kV__law_some dc__law_some pm__law_some an__law_some cd__law_some ct__law_some), sl__law_some⟩)
    (c__law_some : PySem.W.codeIn K cd__law_some "_law_some" = true)
    (k__law_some : PySem.W.keepIn K (.ref f__law_some) = true)
    (a__law_mixed : PySem.W.nsIn K mainGlobals "_law_mixed" = some (some (.ref f__law_mixed)))
    (l__law_mixed : K.lookup f__law_mixed = some ⟨oc__law_mixed, od__law_mixed, .func (PySem.W.fnOf "_law_mixed" "_law_mixed" (defArgs st__law_mixed) (defBody st__law_mixed) (defScope st__law_mixed) .none kV__law_mixed dc__law_mixed pm__law_mixed an__law_mixed cd__law_mixed ct__law_mixed), sl__law_mixed⟩)
    (c__law_mixed : PySem.W.codeIn K cd__law_mixed "_law_mixed" = true)
    (k__law_mixed : PySem.W.keepIn K (.ref f__law_mixed) = true)
    (a__law_alike : PySem.W.nsIn K mainGlobals "_law_alike" = some (some (.ref f__law_alike)))
    (l__law_alike : K.lookup f__law_alike = some ⟨oc__law_alike, od__law_alike, .func (PySem.W.fnOf "_law_alike" "_law_alike" (defArgs st__law_alike) (defBody st__law_alike) (defScope st__law_alike) .none kV__law_alike dc__law_alike pm__law_alike an__law_alike cd__law_alike ct__law_alike), sl__law_alike⟩)
    (c__law_alike : PySem.W.codeIn K cd__law_alike "_law_alike" = true)
    (k__law_alike : PySem.W.keepIn K (.ref f__law_alike) = true)
    (a__law_harp : PySem.W.nsIn K mainGlobals "_law_harp" = some (some (.ref f__law_harp)))
    (l__law_harp : K.lookup f__law_harp = some ⟨oc__law_harp, od__law_harp, .func (PySem.W.fnOf "_law_harp" "_law_harp" (defArgs st__law_harp) (defBody st__law_harp) (defScope st__law_harp) .none kV__law_harp dc__law_harp pm__law_harp an__law_harp cd__law_harp ct__law_harp), sl__law_harp⟩)
    (c__law_harp : PySem.W.codeIn K cd__law_harp "_law_harp" = true)
    (k__law_harp : PySem.W.keepIn K (.ref f__law_harp) = true)
    (a__law_letter : PySem.W.nsIn K mainGlobals "_law_letter" = some (some (.ref f__law_letter)))
    (l__law_letter : K.lookup f__law_letter = some ⟨oc__law_letter, od__law_letter, .func (PySem.W.fnOf "_law_letter" "_law_letter" (defArgs st__law_letter) (defBody st__law_letter) (defScope st__law_letter) .none kV__law_letter dc__law_letter pm__law_letter an__law_letter cd__law_letter ct__law_letter), sl__law_letter⟩)
    (c__law_letter : PySem.W.codeIn K cd__law_letter "_law_letter" = true)
    (k__law_letter : PySem.W.keepIn K (.ref f__law_letter) = true)
    (a__law_open : PySem.W.nsIn K mainGlobals "_law_open" = some (some (.ref f__law_open)))
    (l__law_open : K.lookup f__law_open = some ⟨oc__law_open, od__law_open, .func (PySem.W.fnOf "_law_open" "_law_open" (defArgs st__law_open) (defBody st__law_open) (defScope st__law_open) .none kV__law_open dc__law_open pm__law_open an__law_open cd__law_open ct__law_open), sl__law_open⟩)
    (c__law_open : PySem.W.codeIn K cd__law_open "_law_open" = true)
    (k__law_open : PySem.W.keepIn K (.ref f__law_open) = true)
    (a__law_pitch : PySem.W.nsIn K mainGlobals "_law_pitch" = some (some (.ref f__law_pitch)))
    (l__law_pitch : K.lookup f__law_pitch = some ⟨oc__law_pitch, od__law_pitch, .func (PySem.W.fnOf "_law_pitch" "_law_pitch" (defArgs st__law_pitch) (defBody st__law_pitch) (defScope st__law_pitch) .none kV__law_pitch dc__law_pitch pm__law_pitch an__law_pitch cd__law_pitch ct__law_pitch), sl__law_pitch⟩)
    (c__law_pitch : PySem.W.codeIn K cd__law_pitch "_law_pitch" = true)
    (k__law_pitch : PySem.W.keepIn K (.ref f__law_pitch) = true)
    (a__law_setting : PySem.W.nsIn K mainGlobals "_law_setting" = some (some (.ref f__law_setting)))
    (l__law_setting : K.lookup f__law_setting = some ⟨oc__law_setting, od__law_setting, .func (PySem.W.fnOf "_law_setting" "_law_setting" (defArgs st__law_setting) (defBody st__law_setting) (defScope st__law_setting) .none kV__law_setting dc__law_setting pm__law_setting an__law_setting cd__law_setting ct__law_setting), sl__law_setting⟩)
    (c__law_setting : PySem.W.codeIn K cd__law_setting "_law_setting" = true)
    (k__law_setting : PySem.W.keepIn K (.ref f__law_setting) = true)
    (a__law_fits : PySem.W.nsIn K mainGlobals "_law_fits" = some (some (.ref f__law_fits)))
    (l__law_fits : K.lookup f__law_fits = some ⟨oc__law_fits, od__law_fits, .func (PySem.W.fnOf "_law_fits" "_law_fits" (defArgs st__law_fits) (defBody st__law_fits) (defScope st__law_fits) .none kV__law_fits dc__law_fits pm__law_fits an__law_fits cd__law_fits ct__law_fits), sl__law_fits⟩)
    (c__law_fits : PySem.W.codeIn K cd__law_fits "_law_fits" = true)
    (k__law_fits : PySem.W.keepIn K (.ref f__law_fits) = true)
    (a__law_left_many : PySem.W.nsIn K mainGlobals "_law_left_many" = some (some (.ref f__law_left_many)))
    (l__law_left_many : K.lookup f__law_left_many = some ⟨oc__law_left_many, od__law_left_many, .func (PySem.W.fnOf "_law_left_many" "_law_left_many" (defArgs st__law_left_many) (defBody st__law_left_many) (defScope st__law_left_many) .none kV__law_left_many dc__law_left_many pm__law_left_many an__law_left_many cd__law_left_many ct__law_left_many), sl__law_left_many⟩)
    (c__law_left_many : PySem.W.codeIn K cd__law_left_many "_law_left_many" = true)
    (k__law_left_many : PySem.W.keepIn K (.ref f__law_left_many) = true)
    (a__law_last : PySem.W.nsIn K mainGlobals "_law_last" = some (some (.ref f__law_last)))
    (l__law_last : K.lookup f__law_last = some ⟨oc__law_last, od__law_last, .func (PySem.W.fnOf "_law_last" "_law_last" (defArgs st__law_last) (defBody st__law_last) (defScope st__law_last) .none kV__law_last dc__law_last pm__law_last an__law_last cd__law_last ct__law_last), sl__law_last⟩)
    (c__law_last : PySem.W.codeIn K cd__law_last "_law_last" = true)
    (k__law_last : PySem.W.keepIn K (.ref f__law_last) = true)
    (a__law_moved : PySem.W.nsIn K mainGlobals "_law_moved" = some (some (.ref f__law_moved)))
    (l__law_moved : K.lookup f__law_moved = some ⟨oc__law_moved, od__law_moved, .func (PySem.W.fnOf "_law_moved" "_law_moved" (defArgs st__law_moved) (defBody st__law_moved) (defScope st__law_moved) .none kV__law_moved dc__law_moved pm__law_moved an__law_moved cd__law_moved ct__law_moved), sl__law_moved⟩)
    (c__law_moved : PySem.W.codeIn K cd__law_moved "_law_moved" = true)
    (k__law_moved : PySem.W.keepIn K (.ref f__law_moved) = true)
    (a__law_drawn_part : PySem.W.nsIn K mainGlobals "_law_drawn_part" = some (some (.ref f__law_drawn_part)))
    (l__law_drawn_part : K.lookup f__law_drawn_part = some ⟨oc__law_drawn_part, od__law_drawn_part, .func (PySem.W.fnOf "_law_drawn_part" "_law_drawn_part" (defArgs st__law_drawn_part) (defBody st__law_drawn_part) (defScope st__law_drawn_part) .none kV__law_drawn_part dc__law_drawn_part pm__law_drawn_part an__law_drawn_part cd__law_drawn_part ct__law_drawn_part), sl__law_drawn_part⟩)
    (c__law_drawn_part : PySem.W.codeIn K cd__law_drawn_part "_law_drawn_part" = true)
    (k__law_drawn_part : PySem.W.keepIn K (.ref f__law_drawn_part) = true)
    (a__law_checked : PySem.W.nsIn K mainGlobals "_law_checked" = some (some (.ref f__law_checked)))
    (l__law_checked : K.lookup f__law_checked = some ⟨oc__law_checked, od__law_checked, .func (PySem.W.fnOf "_law_checked" "_law_checked" (defArgs st__law_checked) (defBody st__law_checked) (defScope st__law_checked) .none kV__law_checked dc__law_checked pm__law_checked an__law_checked cd__law_checked ct__law_checked), sl__law_checked⟩)
    (c__law_checked : PySem.W.codeIn K cd__law_checked "_law_checked" = true)
    (k__law_checked : PySem.W.keepIn K (.ref f__law_checked) = true)
    (a__law_raised : PySem.W.nsIn K mainGlobals "_law_raised" = some (some (.ref f__law_raised)))
    (l__law_raised : K.lookup f__law_raised = some ⟨oc__law_raised, od__law_raised, .func (PySem.W.fnOf "_law_raised" "_law_raised" (defArgs st__law_raised) (defBody st__law_raised) (defScope st__law_raised) .none kV__law_raised dc__law_raised pm__law_raised an__law_raised cd__law_raised ct__law_raised), sl__law_raised⟩)
    (c__law_raised : PySem.W.codeIn K cd__law_raised "_law_raised" = true)
    (k__law_raised : PySem.W.keepIn K (.ref f__law_raised) = true)
    (a__law_bag : PySem.W.nsIn K mainGlobals "_law_bag" = some (some (.ref f__law_bag)))
    (l__law_bag : K.lookup f__law_bag = some ⟨oc__law_bag, od__law_bag, .func (PySem.W.fnOf "_law_bag" "_law_bag" (defArgs st__law_bag) (defBody st__law_bag) (defScope st__law_bag) .none kV__law_bag dc__law_bag pm__law_bag an__law_bag cd__law_bag ct__law_bag), sl__law_bag⟩)
    (c__law_bag : PySem.W.codeIn K cd__law_bag "_law_bag" = true)
    (k__law_bag : PySem.W.keepIn K (.ref f__law_bag) = true)
    (a_law : PySem.W.nsIn K mainGlobals "law" = some (some (.ref f_law)))
    (l_law : K.lookup f_law = some ⟨oc_law, od_law, .func (PySem.W.fnOf "law" "law" (defArgs st_law) (defBody st_law) (defScope st_law) .none kV_law dc_law pm_law an_law (.ref cc_law) ct_law), sl_law⟩)
    (c_law : PySem.W.codeIn K (.ref cc_law) "law" = true)
    (k_law : PySem.W.keepIn K (.ref f_law) = true)
    (h_law : PySem.W.codeHdIn K cc_law pt_law = true)
    (n_law : K.lookup pt_law = none)
    (m_law : pt_law ∈ ts)
    (aC_BadScore : PySem.W.nsIn K mainGlobals "BadScore" = some (some (.ref C_BadScore)))
    (kC_BadScore : PySem.W.keepIn K (.ref C_BadScore) = true)
    (bC_BadScore : PySem.W.subIn K (.ref C_BadScore) (.type "BaseException") = some true)
    (tC_BadScore : PySem.W.typeIn K (.ref C_BadScore) = some (.type "type"))
    (iC_BadScore : PySem.W.isClsIn K C_BadScore = true)
    (sC_BadScore : PySem.W.subIn K (.ref C_BadScore) (.ref C_BadScore) = some true)
    (aC_Nothing : PySem.W.nsIn K mainGlobals "Nothing" = some (some (.ref C_Nothing)))
    (xC_Nothing : PySem.W.excIn K C_Nothing [.type "ValueError", .type "Exception", .type "BaseException", .type "object"] "ValueError.__new__" = true)
    (kC_Nothing : PySem.W.keepIn K (.ref C_Nothing) = true)
    (bC_Nothing : PySem.W.subIn K (.ref C_Nothing) (.type "BaseException") = some true)
    (tC_Nothing : PySem.W.typeIn K (.ref C_Nothing) = some (.type "type"))
    (iC_Nothing : PySem.W.isClsIn K C_Nothing = true)
    (sC_Nothing : PySem.W.subIn K (.ref C_Nothing) (.ref C_Nothing) = some true)
    (aC_TooLarge : PySem.W.nsIn K mainGlobals "TooLarge" = some (some (.ref C_TooLarge)))
    (kC_TooLarge : PySem.W.keepIn K (.ref C_TooLarge) = true)
    (bC_TooLarge : PySem.W.subIn K (.ref C_TooLarge) (.type "BaseException") = some true)
    (tC_TooLarge : PySem.W.typeIn K (.ref C_TooLarge) = some (.type "type"))
    (iC_TooLarge : PySem.W.isClsIn K C_TooLarge = true)
    (sC_TooLarge : PySem.W.subIn K (.ref C_TooLarge) (.ref C_TooLarge) = some true)
    (sP_BadScore_Nothing : PySem.W.subIn K (.ref C_BadScore) (.ref C_Nothing) = some false)
    (sP_BadScore_TooLarge : PySem.W.subIn K (.ref C_BadScore) (.ref C_TooLarge) = some false)
    (sP_Nothing_BadScore : PySem.W.subIn K (.ref C_Nothing) (.ref C_BadScore) = some false)
    (sP_Nothing_TooLarge : PySem.W.subIn K (.ref C_Nothing) (.ref C_TooLarge) = some false)
    (sP_TooLarge_BadScore : PySem.W.subIn K (.ref C_TooLarge) (.ref C_BadScore) = some false)
    (sP_TooLarge_Nothing : PySem.W.subIn K (.ref C_TooLarge) (.ref C_Nothing) = some false)
    (xF_BadScore : xfB K C_BadScore = true)
    (xF_TooLarge : xfB K C_TooLarge = true)
    (nF_BadScore_fault : PySem.W.findIn K (.ref C_BadScore) "fault" = some none)
    (nF_BadScore_number : PySem.W.findIn K (.ref C_BadScore) "number" = some none)
    (nF_TooLarge_limit : PySem.W.findIn K (.ref C_TooLarge) "limit" = some none)
    (nF_TooLarge_what : PySem.W.findIn K (.ref C_TooLarge) "what" = some none)
    (zz_third : PySem.W.nsIn K cStatics "thirdparty.any" = some none)
    (zz_super : PySem.W.nsIn K mainGlobals "super" = some none)
    (zz_top : (l.prog.main.scope.names.lookup ("super" : Str)).isSome = false)
    (fX_BadScore : PySem.W.findIn K (.ref C_BadScore) "__init__" = some (some (.ref xfI_BadScore)))
    (lX_BadScore : K.lookup xfI_BadScore = some ⟨xoc_BadScore, xod_BadScore, .func (PySem.W.ksFn "__init__" xq_BadScore (defArgs si_BadScore) (defBody si_BadScore) (defScope si_BadScore) .none xkV_BadScore xdoc_BadScore xpm_BadScore xan_BadScore (.ref xcda_BadScore) xct_BadScore xcc_BadScore), xosl_BadScore⟩)
    (cX_BadScore : PySem.W.codeIn K (.ref xcda_BadScore) xq_BadScore = true)
    (tX_BadScore : PySem.W.typeIn K (.ref xfI_BadScore) = some (.type "function"))
    (dX_BadScore : K.lookup xcda_BadScore = some ⟨xccl_BadScore, xcdd_BadScore, .fields xvs_BadScore, xccs_BadScore⟩)
    (vX_BadScore : xvs_BadScore[2]? = some (.str xfile_BadScore xtf_BadScore))
    (eX_BadScore : ((l.prog.main.file : Str) == xfile_BadScore) = true)
    (gX_BadScore : K.lookup xcc_BadScore = some ⟨xcl_BadScore, xcld_BadScore, .cell (some (.ref C_BadScore)), xcsl_BadScore⟩)
    (oX_BadScore : PySem.W.clsIn K C_BadScore = some xcd_BadScore)
    (rX_BadScore : PySem.HandSPX.refsVE xcd_BadScore.mro = true)
    (hX_BadScore : xcd_BadScore.hasDict = true)
    (iX_BadScore : PySem.W.excInitIn K C_BadScore bmVE "ValueError.__new__" = true)
    (wX_BadScore : PySem.W.subIn K (.ref C_BadScore) (.type "ValueError") = some true)
    (mX_BadScore : PySem.W.mroIn K C_BadScore (.ref C_BadScore) = some true)
    (sX_BadScore : PySem.W.ks_superIn K C_BadScore C_BadScore "__init__" = some (some (.builtin "ValueError.__init__")))
    (aX_BadScore : PySem.W.findIn K (.ref C_BadScore) "__setattr__" = some (some (.builtin "object.__setattr__")))
    (fX_TooLarge : PySem.W.findIn K (.ref C_TooLarge) "__init__" = some (some (.ref xfI_TooLarge)))
    (lX_TooLarge : K.lookup xfI_TooLarge = some ⟨xoc_TooLarge, xod_TooLarge, .func (PySem.W.ksFn "__init__" xq_TooLarge (defArgs si_TooLarge) (defBody si_TooLarge) (defScope si_TooLarge) .none xkV_TooLarge xdoc_TooLarge xpm_TooLarge xan_TooLarge (.ref xcda_TooLarge) xct_TooLarge xcc_TooLarge), xosl_TooLarge⟩)
    (cX_TooLarge : PySem.W.codeIn K (.ref xcda_TooLarge) xq_TooLarge = true)
    (tX_TooLarge : PySem.W.typeIn K (.ref xfI_TooLarge) = some (.type "function"))
    (dX_TooLarge : K.lookup xcda_TooLarge = some ⟨xccl_TooLarge, xcdd_TooLarge, .fields xvs_TooLarge, xccs_TooLarge⟩)
    (vX_TooLarge : xvs_TooLarge[2]? = some (.str xfile_TooLarge xtf_TooLarge))
    (eX_TooLarge : ((l.prog.main.file : Str) == xfile_TooLarge) = true)
    (gX_TooLarge : K.lookup xcc_TooLarge = some ⟨xcl_TooLarge, xcld_TooLarge, .cell (some (.ref C_TooLarge)), xcsl_TooLarge⟩)
    (oX_TooLarge : PySem.W.clsIn K C_TooLarge = some xcd_TooLarge)
    (rX_TooLarge : PySem.HandSPX.refsVE xcd_TooLarge.mro = true)
    (hX_TooLarge : xcd_TooLarge.hasDict = true)
    (iX_TooLarge : PySem.W.excInitIn K C_TooLarge bmVE "ValueError.__new__" = true)
    (wX_TooLarge : PySem.W.subIn K (.ref C_TooLarge) (.type "ValueError") = some true)
    (mX_TooLarge : PySem.W.mroIn K C_TooLarge (.ref C_TooLarge) = some true)
    (sX_TooLarge : PySem.W.ks_superIn K C_TooLarge C_TooLarge "__init__" = some (some (.builtin "ValueError.__init__")))
    (aX_TooLarge : PySem.W.findIn K (.ref C_TooLarge) "__setattr__" = some (some (.builtin "object.__setattr__")))
    (gV_LEAST_PITCH : PySem.W.nsIn K mainGlobals "LEAST_PITCH" = some (some u_LEAST_PITCH))
    (gW_LEAST_PITCH : valD K 4 u_LEAST_PITCH = some (.int (-1)))
    (gV_MOST_NOTES : PySem.W.nsIn K mainGlobals "MOST_NOTES" = some (some u_MOST_NOTES))
    (gW_MOST_NOTES : valD K 4 u_MOST_NOTES = some (.int 120))
    (gV_MOST_PITCH : PySem.W.nsIn K mainGlobals "MOST_PITCH" = some (some u_MOST_PITCH))
    (gW_MOST_PITCH : valD K 4 u_MOST_PITCH = some (.int 599))
    (gV_MOST_TICKS : PySem.W.nsIn K mainGlobals "MOST_TICKS" = some (some u_MOST_TICKS))
    (gW_MOST_TICKS : valD K 4 u_MOST_TICKS = some (.int 64))
    (z_abs : PySem.W.nsIn K mainGlobals "abs" = some none)
    (z_all : PySem.W.nsIn K mainGlobals "all" = some none)
    (z_bool : PySem.W.nsIn K mainGlobals "bool" = some none)
    (z_enumerate : PySem.W.nsIn K mainGlobals "enumerate" = some none)
    (z_int : PySem.W.nsIn K mainGlobals "int" = some none)
    (z_isinstance : PySem.W.nsIn K mainGlobals "isinstance" = some none)
    (z_len : PySem.W.nsIn K mainGlobals "len" = some none)
    (z_list : PySem.W.nsIn K mainGlobals "list" = some none)
    (z_max : PySem.W.nsIn K mainGlobals "max" = some none)
    (z_min : PySem.W.nsIn K mainGlobals "min" = some none)
    (z_range : PySem.W.nsIn K mainGlobals "range" = some none)
    (z_repr : PySem.W.nsIn K mainGlobals "repr" = some none)
    (z_set : PySem.W.nsIn K mainGlobals "set" = some none)
    (z_sorted : PySem.W.nsIn K mainGlobals "sorted" = some none)
    (z_tuple : PySem.W.nsIn K mainGlobals "tuple" = some none)
    (z_zip : PySem.W.nsIn K mainGlobals "zip" = some none) :
    LawAtG l w K 19 63 "script" mg fa h := by
  obtain rfl : fa = f_law := one_ref hfa (PySem.W.mg_of kin G a_law)
  have B : Bs mg := ⟨PySem.W.mg_none_of kin G z_abs, PySem.W.mg_none_of kin G z_all, PySem.W.mg_none_of kin G z_bool, PySem.W.mg_none_of kin G z_enumerate, PySem.W.mg_none_of kin G z_int, PySem.W.mg_none_of kin G z_isinstance, PySem.W.mg_none_of kin G z_len, PySem.W.mg_none_of kin G z_list, PySem.W.mg_none_of kin G z_max, PySem.W.mg_none_of kin G z_min, PySem.W.mg_none_of kin G z_range, PySem.W.mg_none_of kin G z_repr, PySem.W.mg_none_of kin G z_set, PySem.W.mg_none_of kin G z_sorted, PySem.W.mg_none_of kin G z_tuple, PySem.W.mg_none_of kin G z_zip⟩
  have F_is_number := fun_mk (st := st_is_number) l_is_number c_is_number k_is_number
  have b_is_number := F_is_number.binds (ps := ["thing"]) fun _ _ _ _ _ _ us hl => match us, hl with | [_], _ => rfl
  have g_is_number := PySem.W.mg_of kin G a_is_number
  have F_is_index := fun_mk (st := st_is_index) l_is_index c_is_index k_is_index
  have b_is_index := F_is_index.binds (ps := ["thing"]) fun _ _ _ _ _ _ us hl => match us, hl with | [_], _ => rfl
  have g_is_index := PySem.W.mg_of kin G a_is_index
  have F_is_sized := fun_mk (st := st_is_sized) l_is_sized c_is_sized k_is_sized
  have b_is_sized := F_is_sized.binds (ps := ["thing", "many"]) fun _ _ _ _ _ _ us hl => match us, hl with | [_, _], _ => rfl
  have g_is_sized := PySem.W.mg_of kin G a_is_sized
  have F_is_tuple_of := fun_mk (st := st_is_tuple_of) l_is_tuple_of c_is_tuple_of k_is_tuple_of
  have b_is_tuple_of := F_is_tuple_of.binds (ps := ["thing", "is_one"]) fun _ _ _ _ _ _ us hl => match us, hl with | [_, _], _ => rfl
  have g_is_tuple_of := PySem.W.mg_of kin G a_is_tuple_of
  have F_is_note := fun_mk (st := st_is_note) l_is_note c_is_note k_is_note
  have b_is_note := F_is_note.binds (ps := ["thing"]) fun _ _ _ _ _ _ us hl => match us, hl with | [_], _ => rfl
  have g_is_note := PySem.W.mg_of kin G a_is_note
  have F_is_score_form := fun_mk (st := st_is_score_form) l_is_score_form c_is_score_form k_is_score_form
  have b_is_score_form := F_is_score_form.binds (ps := ["thing"]) fun _ _ _ _ _ _ us hl => match us, hl with | [_], _ => rfl
  have g_is_score_form := PySem.W.mg_of kin G a_is_score_form
  have F_check_note := fun_mk (st := st_check_note) l_check_note c_check_note k_check_note
  have b_check_note := F_check_note.binds (ps := ["score", "number"]) fun _ _ _ _ _ _ us hl => match us, hl with | [_, _], _ => rfl
  have g_check_note := PySem.W.mg_of kin G a_check_note
  have F_checked_score := fun_mk (st := st_checked_score) l_checked_score c_checked_score k_checked_score
  have b_checked_score := F_checked_score.binds (ps := ["thing"]) fun _ _ _ _ _ _ us hl => match us, hl with | [_], _ => rfl
  have g_checked_score := PySem.W.mg_of kin G a_checked_score
  have F_last_tick := fun_mk (st := st_last_tick) l_last_tick c_last_tick k_last_tick
  have b_last_tick := F_last_tick.binds (ps := ["note"]) fun _ _ _ _ _ _ us hl => match us, hl with | [_], _ => rfl
  have g_last_tick := PySem.W.mg_of kin G a_last_tick
  have F_rings_at := fun_mk (st := st_rings_at) l_rings_at c_rings_at k_rings_at
  have b_rings_at := F_rings_at.binds (ps := ["score", "tick"]) fun _ _ _ _ _ _ us hl => match us, hl with | [_, _], _ => rfl
  have g_rings_at := PySem.W.mg_of kin G a_rings_at
  have F_begins_at := fun_mk (st := st_begins_at) l_begins_at c_begins_at k_begins_at
  have b_begins_at := F_begins_at.binds (ps := ["score", "tick"]) fun _ _ _ _ _ _ us hl => match us, hl with | [_, _], _ => rfl
  have g_begins_at := PySem.W.mg_of kin G a_begins_at
  have F_pitches_at := fun_mk (st := st_pitches_at) l_pitches_at c_pitches_at k_pitches_at
  have b_pitches_at := F_pitches_at.binds (ps := ["score", "tick"]) fun _ _ _ _ _ _ us hl => match us, hl with | [_, _], _ => rfl
  have g_pitches_at := PySem.W.mg_of kin G a_pitches_at
  have F_raised := fun_mk (st := st_raised) l_raised c_raised k_raised
  have b_raised := F_raised.binds (ps := ["score", "steps"]) fun _ _ _ _ _ _ us hl => match us, hl with | [_, _], _ => rfl
  have g_raised := PySem.W.mg_of kin G a_raised
  have F_from_tick := fun_mk (st := st_from_tick) l_from_tick c_from_tick k_from_tick
  have b_from_tick := F_from_tick.binds (ps := ["score", "tick"]) fun _ _ _ _ _ _ us hl => match us, hl with | [_, _], _ => rfl
  have g_from_tick := PySem.W.mg_of kin G a_from_tick
  have F_joined := fun_mk (st := st_joined) l_joined c_joined k_joined
  have b_joined := F_joined.binds (ps := ["one", "other"]) fun _ _ _ _ _ _ us hl => match us, hl with | [_, _], _ => rfl
  have g_joined := PySem.W.mg_of kin G a_joined
  have F_with_note := fun_mk (st := st_with_note) l_with_note c_with_note k_with_note
  have b_with_note := F_with_note.binds (ps := ["score", "note"]) fun _ _ _ _ _ _ us hl => match us, hl with | [_, _], _ => rfl
  have g_with_note := PySem.W.mg_of kin G a_with_note
  have F_without_note := fun_mk (st := st_without_note) l_without_note c_without_note k_without_note
  have b_without_note := F_without_note.binds (ps := ["score", "number"]) fun _ _ _ _ _ _ us hl => match us, hl with | [_, _], _ => rfl
  have g_without_note := PySem.W.mg_of kin G a_without_note
  have F_loudest := fun_mk (st := st_loudest) l_loudest c_loudest k_loudest
  have b_loudest := F_loudest.binds (ps := ["score"]) fun _ _ _ _ _ _ us hl => match us, hl with | [_], _ => rfl
  have g_loudest := PySem.W.mg_of kin G a_loudest
  have F_span_of := fun_mk (st := st_span_of) l_span_of c_span_of k_span_of
  have b_span_of := F_span_of.binds (ps := ["score"]) fun _ _ _ _ _ _ us hl => match us, hl with | [_], _ => rfl
  have g_span_of := PySem.W.mg_of kin G a_span_of
  have F__law_take := fun_mk (st := st__law_take) l__law_take c__law_take k__law_take
  have b__law_take := F__law_take.binds (ps := ["bag", "many"]) fun _ _ _ _ _ _ us hl => match us, hl with | [_, _], _ => rfl
  have g__law_take := PySem.W.mg_of kin G a__law_take
  have F__law_some := fun_mk (st := st__law_some) l__law_some c__law_some k__law_some
  have b__law_some := F__law_some.binds (ps := ["bag", "things"]) fun _ _ _ _ _ _ us hl => match us, hl with | [_, _], _ => rfl
  have g__law_some := PySem.W.mg_of kin G a__law_some
  have F__law_mixed := fun_mk (st := st__law_mixed) l__law_mixed c__law_mixed k__law_mixed
  have b__law_mixed := F__law_mixed.binds (ps := ["bag", "things"]) fun _ _ _ _ _ _ us hl => match us, hl with | [_, _], _ => rfl
  have g__law_mixed := PySem.W.mg_of kin G a__law_mixed
  have F__law_alike := fun_mk (st := st__law_alike) l__law_alike c__law_alike k__law_alike
  have b__law_alike := F__law_alike.binds (ps := ["found", "due"]) fun _ _ _ _ _ _ us hl => match us, hl with | [_, _], _ => rfl
  have g__law_alike := PySem.W.mg_of kin G a__law_alike
  have F__law_harp := fun_mk (st := st__law_harp) l__law_harp c__law_harp k__law_harp
  have b__law_harp := F__law_harp.binds (ps := ["bag", "most_letters", "most_strings"]) fun _ _ _ _ _ _ us hl => match us, hl with | [_, _, _], _ => rfl
  have g__law_harp := PySem.W.mg_of kin G a__law_harp
  have F__law_letter := fun_mk (st := st__law_letter) l__law_letter c__law_letter k__law_letter
  have b__law_letter := F__law_letter.binds (ps := ["harp", "string"]) fun _ _ _ _ _ _ us hl => match us, hl with | [_, _], _ => rfl
  have g__law_letter := PySem.W.mg_of kin G a__law_letter
  have F__law_open := fun_mk (st := st__law_open) l__law_open c__law_open k__law_open
  have b__law_open := F__law_open.binds (ps := ["harp", "string"]) fun _ _ _ _ _ _ us hl => match us, hl with | [_, _], _ => rfl
  have g__law_open := PySem.W.mg_of kin G a__law_open
  have F__law_pitch := fun_mk (st := st__law_pitch) l__law_pitch c__law_pitch k__law_pitch
  have b__law_pitch := F__law_pitch.binds (ps := ["harp", "setting", "string"]) fun _ _ _ _ _ _ us hl => match us, hl with | [_, _, _], _ => rfl
  have g__law_pitch := PySem.W.mg_of kin G a__law_pitch
  have F__law_setting := fun_mk (st := st__law_setting) l__law_setting c__law_setting k__law_setting
  have b__law_setting := F__law_setting.binds (ps := ["bag", "harp"]) fun _ _ _ _ _ _ us hl => match us, hl with | [_, _], _ => rfl
  have g__law_setting := PySem.W.mg_of kin G a__law_setting
  have F__law_fits := fun_mk (st := st__law_fits) l__law_fits c__law_fits k__law_fits
  have b__law_fits := F__law_fits.binds (ps := ["harp", "lot"]) fun _ _ _ _ _ _ us hl => match us, hl with | [_, _], _ => rfl
  have g__law_fits := PySem.W.mg_of kin G a__law_fits
  have F__law_left_many := fun_mk (st := st__law_left_many) l__law_left_many c__law_left_many k__law_left_many
  have b__law_left_many := F__law_left_many.binds (ps := ["harp", "strings"]) fun _ _ _ _ _ _ us hl => match us, hl with | [_, _], _ => rfl
  have g__law_left_many := PySem.W.mg_of kin G a__law_left_many
  have F__law_last := fun_mk (st := st__law_last) l__law_last c__law_last k__law_last
  have b__law_last := F__law_last.binds (ps := ["note"]) fun _ _ _ _ _ _ us hl => match us, hl with | [_], _ => rfl
  have g__law_last := PySem.W.mg_of kin G a__law_last
  have F__law_moved := fun_mk (st := st__law_moved) l__law_moved c__law_moved k__law_moved
  have b__law_moved := F__law_moved.binds (ps := ["setting", "letter", "way"]) fun _ _ _ _ _ _ us hl => match us, hl with | [_, _, _], _ => rfl
  have g__law_moved := PySem.W.mg_of kin G a__law_moved
  have F__law_drawn_part := fun_mk (st := st__law_drawn_part) l__law_drawn_part c__law_drawn_part k__law_drawn_part
  have b__law_drawn_part := F__law_drawn_part.binds (ps := ["bag", "harp", "most_ticks", "busy"]) fun _ _ _ _ _ _ us hl => match us, hl with | [_, _, _, _], _ => rfl
  have g__law_drawn_part := PySem.W.mg_of kin G a__law_drawn_part
  have F__law_checked := fun_mk (st := st__law_checked) l__law_checked c__law_checked k__law_checked
  have b__law_checked := F__law_checked.binds (ps := ["score"]) fun _ _ _ _ _ _ us hl => match us, hl with | [_], _ => rfl
  have g__law_checked := PySem.W.mg_of kin G a__law_checked
  have F__law_raised := fun_mk (st := st__law_raised) l__law_raised c__law_raised k__law_raised
  have b__law_raised := F__law_raised.binds (ps := ["act"]) fun _ _ _ _ _ _ us hl => match us, hl with | [_], _ => rfl
  have g__law_raised := PySem.W.mg_of kin G a__law_raised
  have F__law_bag := fun_mk (st := st__law_bag) l__law_bag c__law_bag k__law_bag
  have b__law_bag := F__law_bag.binds (ps := ["script"]) fun _ _ _ _ _ _ us hl => match us, hl with | [_], _ => rfl
  have g__law_bag := PySem.W.mg_of kin G a__law_bag
  have F_law := fun_mk (st := st_law) l_law c_law k_law
  have b_law := F_law.binds (ps := ["script"]) fun _ _ _ _ _ _ us hl => match us, hl with | [_], _ => rfl
  have g_law := PySem.W.mg_of kin G a_law
  have gC_BadScore := PySem.W.mg_of kin G aC_BadScore
  have gC_Nothing := PySem.W.mg_of kin G aC_Nothing
  have x_Nothing : XCls K mg "Nothing" := ⟨C_Nothing, _, _, _, _, PySem.F.excBase_ValueError, xC_Nothing, gC_Nothing, kC_Nothing, bC_Nothing, tC_Nothing⟩
  have gC_TooLarge := PySem.W.mg_of kin G aC_TooLarge
  have y_BadScore : XCls2 l.prog K mg "BadScore" "number" "fault" := ⟨si_BadScore, C_BadScore, ⟨⟨xfI_BadScore, xcda_BadScore, xcc_BadScore, xq_BadScore, xkV_BadScore, xdoc_BadScore, xpm_BadScore, xct_BadScore, xoc_BadScore, xccl_BadScore, xcl_BadScore, xan_BadScore, xod_BadScore, xcdd_BadScore, xcld_BadScore, xosl_BadScore, xccs_BadScore, xcsl_BadScore, xvs_BadScore, xfile_BadScore, xtf_BadScore, lX_BadScore, cX_BadScore, fX_BadScore, tX_BadScore, dX_BadScore, vX_BadScore, eX_BadScore, gX_BadScore⟩, ⟨xcd_BadScore, oX_BadScore, rX_BadScore, hX_BadScore⟩, iX_BadScore, gC_BadScore, kC_BadScore, bC_BadScore, wX_BadScore, tC_BadScore, mX_BadScore, sX_BadScore, zz_third, aX_BadScore, nF_BadScore_number, nF_BadScore_fault, PySem.W.mg_none_of kin G zz_super⟩, it_BadScore zz_top⟩
  have y_TooLarge : XCls2 l.prog K mg "TooLarge" "what" "limit" := ⟨si_TooLarge, C_TooLarge, ⟨⟨xfI_TooLarge, xcda_TooLarge, xcc_TooLarge, xq_TooLarge, xkV_TooLarge, xdoc_TooLarge, xpm_TooLarge, xct_TooLarge, xoc_TooLarge, xccl_TooLarge, xcl_TooLarge, xan_TooLarge, xod_TooLarge, xcdd_TooLarge, xcld_TooLarge, xosl_TooLarge, xccs_TooLarge, xcsl_TooLarge, xvs_TooLarge, xfile_TooLarge, xtf_TooLarge, lX_TooLarge, cX_TooLarge, fX_TooLarge, tX_TooLarge, dX_TooLarge, vX_TooLarge, eX_TooLarge, gX_TooLarge⟩, ⟨xcd_TooLarge, oX_TooLarge, rX_TooLarge, hX_TooLarge⟩, iX_TooLarge, gC_TooLarge, kC_TooLarge, bC_TooLarge, wX_TooLarge, tC_TooLarge, mX_TooLarge, sX_TooLarge, zz_third, aX_TooLarge, nF_TooLarge_what, nF_TooLarge_limit, PySem.W.mg_none_of kin G zz_super⟩, it_TooLarge zz_top⟩
  have xf_BadScore := xfB_ok xF_BadScore
  have xf_TooLarge := xfB_ok xF_TooLarge
  have nf_BadScore_fault := nF_BadScore_fault
  have nf_BadScore_number := nF_BadScore_number
  have nf_TooLarge_limit := nF_TooLarge_limit
  have nf_TooLarge_what := nF_TooLarge_what
  have ap__law_raised : Apart K mg ["BadScore", "Nothing", "TooLarge"] [("BadScore", "score", ["number", "fault"]), ("Nothing", "nothing", []), ("TooLarge", "large", ["what", "limit"])] [(C_BadScore, "score", ["number", "fault"]), (C_Nothing, "nothing", []), (C_TooLarge, "large", ["what", "limit"])] := (apart_cons (by decide) gC_BadScore (by
      intro e m C hC
      simp only [List.mem_cons, List.not_mem_nil, or_false] at m
      rcases m with rfl | rfl | rfl
      · obtain rfl := one_ref hC gC_BadScore
        exact (exm_two bC_BadScore iC_BadScore tC_BadScore sC_BadScore).trans rfl
      · obtain rfl := one_ref hC gC_Nothing
        exact (exm_two bC_BadScore iC_BadScore tC_BadScore sP_Nothing_BadScore).trans rfl
      · obtain rfl := one_ref hC gC_TooLarge
        exact (exm_two bC_BadScore iC_BadScore tC_BadScore sP_TooLarge_BadScore).trans rfl) (apart_cons (by decide) gC_Nothing (by
      intro e m C hC
      simp only [List.mem_cons, List.not_mem_nil, or_false] at m
      rcases m with rfl | rfl | rfl
      · obtain rfl := one_ref hC gC_BadScore
        exact (exm_two bC_Nothing iC_Nothing tC_Nothing sP_BadScore_Nothing).trans rfl
      · obtain rfl := one_ref hC gC_Nothing
        exact (exm_two bC_Nothing iC_Nothing tC_Nothing sC_Nothing).trans rfl
      · obtain rfl := one_ref hC gC_TooLarge
        exact (exm_two bC_Nothing iC_Nothing tC_Nothing sP_TooLarge_Nothing).trans rfl) (apart_cons (by decide) gC_TooLarge (by
      intro e m C hC
      simp only [List.mem_cons, List.not_mem_nil, or_false] at m
      rcases m with rfl | rfl | rfl
      · obtain rfl := one_ref hC gC_BadScore
        exact (exm_two bC_TooLarge iC_TooLarge tC_TooLarge sP_BadScore_TooLarge).trans rfl
      · obtain rfl := one_ref hC gC_Nothing
        exact (exm_two bC_TooLarge iC_TooLarge tC_TooLarge sP_Nothing_TooLarge).trans rfl
      · obtain rfl := one_ref hC gC_TooLarge
        exact (exm_two bC_TooLarge iC_TooLarge tC_TooLarge sC_TooLarge).trans rfl) apart_nil)))
  have q_LEAST_PITCH : GlC K mg "LEAST_PITCH" (.int (-1)) := GlC.of (PySem.W.mg_of kin G gV_LEAST_PITCH) 4 gW_LEAST_PITCH
  have q_MOST_NOTES : GlC K mg "MOST_NOTES" (.int 120) := GlC.of (PySem.W.mg_of kin G gV_MOST_NOTES) 4 gW_MOST_NOTES
  have q_MOST_PITCH : GlC K mg "MOST_PITCH" (.int 599) := GlC.of (PySem.W.mg_of kin G gV_MOST_PITCH) 4 gW_MOST_PITCH
  have q_MOST_TICKS : GlC K mg "MOST_TICKS" (.int 64) := GlC.of (PySem.W.mg_of kin G gV_MOST_TICKS) 4 gW_MOST_TICKS
  refine ⟨PySem.W.fnOf "law" "law" (defArgs st_law) (defBody st_law) (defScope st_law) .none kV_law dc_law pm_law an_law (.ref cc_law) ct_law, [(cc_law, pt_law)], spLaw K [(pt_law, (("law" : Str) ++ ".<locals>." ++ "<lambda>" : Str))], fun p m => ?_, fun p m => ?_, fun p m => ?_, fun s v => .of_eq rfl, fun H a ns few tabs scr => ⟨a, ns, rfl, scr, few, fun p m => ?_, fun _ => rfl⟩, fun base bk bg tb => ?_⟩
  · simp only [List.mem_cons, List.not_mem_nil, or_false] at m
    rcases m with rfl
    · exact T _ m_law
  · simp only [List.mem_cons, List.not_mem_nil, or_false] at m
    rcases m with rfl
    · exact n_law
  · simp only [List.mem_cons, List.not_mem_nil, or_false] at m
    rcases m with rfl
    · exact PySem.W.codeHd_of_K kin h_law
  · simp only [List.mem_cons, List.not_mem_nil, or_false] at m
    rcases m with rfl
    · exact LamX.TabS.nil (tabs (cc_law, pt_law) (by simp))
  · have D_is_number := s_is_number (P := l.prog) (w := w) (base := base) (TT := [(pt_law, (("law" : Str) ++ ".<locals>." ++ "<lambda>" : Str))]) B ⟨_, _, F_is_number, g_is_number, b_is_number⟩ v_is_number
    have D_is_index := s_is_index (P := l.prog) (w := w) (base := base) (TT := [(pt_law, (("law" : Str) ++ ".<locals>." ++ "<lambda>" : Str))]) B ⟨_, _, F_is_index, g_is_index, b_is_index⟩ D_is_number v_is_index
    have D_is_sized := s_is_sized (P := l.prog) (w := w) (base := base) (TT := [(pt_law, (("law" : Str) ++ ".<locals>." ++ "<lambda>" : Str))]) B ⟨_, _, F_is_sized, g_is_sized, b_is_sized⟩ v_is_sized
    have D_is_tuple_of := s_is_tuple_of (P := l.prog) (w := w) (base := base) (TT := [(pt_law, (("law" : Str) ++ ".<locals>." ++ "<lambda>" : Str))]) B ⟨_, _, F_is_tuple_of, g_is_tuple_of, b_is_tuple_of⟩ v_is_tuple_of
    have D_is_note := s_is_note (P := l.prog) (w := w) (base := base) (TT := [(pt_law, (("law" : Str) ++ ".<locals>." ++ "<lambda>" : Str))]) B ⟨_, _, F_is_note, g_is_note, b_is_note⟩ D_is_sized D_is_index D_is_number v_is_note
    have D_is_score_form := s_is_score_form (P := l.prog) (w := w) (base := base) (TT := [(pt_law, (("law" : Str) ++ ".<locals>." ++ "<lambda>" : Str))]) B ⟨_, _, F_is_score_form, g_is_score_form, b_is_score_form⟩ D_is_sized D_is_index D_is_tuple_of D_is_note v_is_score_form
    have D_check_note := s_check_note (P := l.prog) (w := w) (base := base) (TT := [(pt_law, (("law" : Str) ++ ".<locals>." ++ "<lambda>" : Str))]) B ⟨_, _, F_check_note, g_check_note, b_check_note⟩ y_BadScore q_LEAST_PITCH q_MOST_PITCH v_check_note
    have D_checked_score := s_checked_score (P := l.prog) (w := w) (base := base) (TT := [(pt_law, (("law" : Str) ++ ".<locals>." ++ "<lambda>" : Str))]) B ⟨_, _, F_checked_score, g_checked_score, b_checked_score⟩ D_is_score_form D_check_note y_BadScore y_TooLarge q_MOST_NOTES q_MOST_TICKS v_checked_score
    have D_last_tick := s_last_tick (P := l.prog) (w := w) (base := base) (TT := [(pt_law, (("law" : Str) ++ ".<locals>." ++ "<lambda>" : Str))]) B ⟨_, _, F_last_tick, g_last_tick, b_last_tick⟩ v_last_tick
    have D_rings_at := s_rings_at (P := l.prog) (w := w) (base := base) (TT := [(pt_law, (("law" : Str) ++ ".<locals>." ++ "<lambda>" : Str))]) B ⟨_, _, F_rings_at, g_rings_at, b_rings_at⟩ D_last_tick v_rings_at
    have D_begins_at := s_begins_at (P := l.prog) (w := w) (base := base) (TT := [(pt_law, (("law" : Str) ++ ".<locals>." ++ "<lambda>" : Str))]) B ⟨_, _, F_begins_at, g_begins_at, b_begins_at⟩ v_begins_at
    have D_pitches_at := s_pitches_at (P := l.prog) (w := w) (base := base) (TT := [(pt_law, (("law" : Str) ++ ".<locals>." ++ "<lambda>" : Str))]) B ⟨_, _, F_pitches_at, g_pitches_at, b_pitches_at⟩ D_rings_at v_pitches_at
    have D_raised := s_raised (P := l.prog) (w := w) (base := base) (TT := [(pt_law, (("law" : Str) ++ ".<locals>." ++ "<lambda>" : Str))]) B ⟨_, _, F_raised, g_raised, b_raised⟩ D_is_number D_checked_score x_Nothing v_raised
    have D_from_tick := s_from_tick (P := l.prog) (w := w) (base := base) (TT := [(pt_law, (("law" : Str) ++ ".<locals>." ++ "<lambda>" : Str))]) B ⟨_, _, F_from_tick, g_from_tick, b_from_tick⟩ D_is_index x_Nothing v_from_tick
    have D_joined := s_joined (P := l.prog) (w := w) (base := base) (TT := [(pt_law, (("law" : Str) ++ ".<locals>." ++ "<lambda>" : Str))]) B ⟨_, _, F_joined, g_joined, b_joined⟩ D_checked_score v_joined
    have D_with_note := s_with_note (P := l.prog) (w := w) (base := base) (TT := [(pt_law, (("law" : Str) ++ ".<locals>." ++ "<lambda>" : Str))]) B ⟨_, _, F_with_note, g_with_note, b_with_note⟩ D_is_note D_checked_score x_Nothing v_with_note
    have D_without_note := s_without_note (P := l.prog) (w := w) (base := base) (TT := [(pt_law, (("law" : Str) ++ ".<locals>." ++ "<lambda>" : Str))]) B ⟨_, _, F_without_note, g_without_note, b_without_note⟩ D_is_index x_Nothing v_without_note
    have D_loudest := s_loudest (P := l.prog) (w := w) (base := base) (TT := [(pt_law, (("law" : Str) ++ ".<locals>." ++ "<lambda>" : Str))]) B ⟨_, _, F_loudest, g_loudest, b_loudest⟩ D_rings_at v_loudest
    have D_span_of := s_span_of (P := l.prog) (w := w) (base := base) (TT := [(pt_law, (("law" : Str) ++ ".<locals>." ++ "<lambda>" : Str))]) B ⟨_, _, F_span_of, g_span_of, b_span_of⟩ v_span_of
    have D__law_take := s__law_take (P := l.prog) (w := w) (base := base) (TT := [(pt_law, (("law" : Str) ++ ".<locals>." ++ "<lambda>" : Str))]) B ⟨_, _, F__law_take, g__law_take, b__law_take⟩ v__law_take
    have D__law_some := s__law_some (P := l.prog) (w := w) (base := base) (TT := [(pt_law, (("law" : Str) ++ ".<locals>." ++ "<lambda>" : Str))]) B ⟨_, _, F__law_some, g__law_some, b__law_some⟩ D__law_take v__law_some
    have D__law_mixed := s__law_mixed (P := l.prog) (w := w) (base := base) (TT := [(pt_law, (("law" : Str) ++ ".<locals>." ++ "<lambda>" : Str))]) B ⟨_, _, F__law_mixed, g__law_mixed, b__law_mixed⟩ D__law_take v__law_mixed
    have D__law_alike := s__law_alike (P := l.prog) (w := w) (base := base) (TT := [(pt_law, (("law" : Str) ++ ".<locals>." ++ "<lambda>" : Str))]) B ⟨_, _, F__law_alike, g__law_alike, b__law_alike⟩ v__law_alike
    have D__law_harp := s__law_harp (P := l.prog) (w := w) (base := base) (TT := [(pt_law, (("law" : Str) ++ ".<locals>." ++ "<lambda>" : Str))]) B ⟨_, _, F__law_harp, g__law_harp, b__law_harp⟩ D__law_take D__law_some D__law_mixed v__law_harp
    have D__law_letter := s__law_letter (P := l.prog) (w := w) (base := base) (TT := [(pt_law, (("law" : Str) ++ ".<locals>." ++ "<lambda>" : Str))]) B ⟨_, _, F__law_letter, g__law_letter, b__law_letter⟩ v__law_letter
    have D__law_open := s__law_open (P := l.prog) (w := w) (base := base) (TT := [(pt_law, (("law" : Str) ++ ".<locals>." ++ "<lambda>" : Str))]) B ⟨_, _, F__law_open, g__law_open, b__law_open⟩ D__law_letter v__law_open
    have D__law_pitch := s__law_pitch (P := l.prog) (w := w) (base := base) (TT := [(pt_law, (("law" : Str) ++ ".<locals>." ++ "<lambda>" : Str))]) B ⟨_, _, F__law_pitch, g__law_pitch, b__law_pitch⟩ D__law_open D__law_letter v__law_pitch
    have D__law_setting := s__law_setting (P := l.prog) (w := w) (base := base) (TT := [(pt_law, (("law" : Str) ++ ".<locals>." ++ "<lambda>" : Str))]) B ⟨_, _, F__law_setting, g__law_setting, b__law_setting⟩ D__law_take v__law_setting
    have D__law_fits := s__law_fits (P := l.prog) (w := w) (base := base) (TT := [(pt_law, (("law" : Str) ++ ".<locals>." ++ "<lambda>" : Str))]) B ⟨_, _, F__law_fits, g__law_fits, b__law_fits⟩ v__law_fits
    have D__law_left_many := s__law_left_many (P := l.prog) (w := w) (base := base) (TT := [(pt_law, (("law" : Str) ++ ".<locals>." ++ "<lambda>" : Str))]) B ⟨_, _, F__law_left_many, g__law_left_many, b__law_left_many⟩ D__law_fits v__law_left_many
    have D__law_last := s__law_last (P := l.prog) (w := w) (base := base) (TT := [(pt_law, (("law" : Str) ++ ".<locals>." ++ "<lambda>" : Str))]) B ⟨_, _, F__law_last, g__law_last, b__law_last⟩ v__law_last
    have D__law_moved := s__law_moved (P := l.prog) (w := w) (base := base) (TT := [(pt_law, (("law" : Str) ++ ".<locals>." ++ "<lambda>" : Str))]) B ⟨_, _, F__law_moved, g__law_moved, b__law_moved⟩ v__law_moved
    have D__law_drawn_part := s__law_drawn_part (P := l.prog) (w := w) (base := base) (TT := [(pt_law, (("law" : Str) ++ ".<locals>." ++ "<lambda>" : Str))]) B ⟨_, _, F__law_drawn_part, g__law_drawn_part, b__law_drawn_part⟩ D__law_setting D__law_take D__law_pitch D__law_last D__law_left_many D__law_letter D__law_some D__law_moved v__law_drawn_part
    have D__law_checked := s__law_checked (P := l.prog) (w := w) (base := base) (TT := [(pt_law, (("law" : Str) ++ ".<locals>." ++ "<lambda>" : Str))]) B ⟨_, _, F__law_checked, g__law_checked, b__law_checked⟩ v__law_checked
    have FB : FnOk l.prog w K mg base (L2.CX l.prog w) 1 f__law_bag _ ["script"] (spBag K [(pt_law, (("law" : Str) ++ ".<locals>." ++ "<lambda>" : Str))]) := bag_fn (k := 0) F__law_bag sc__law_bag fun cdv A outer s H E a ns hS few gr => sim_bone (sim_retO (sim_lst (sim_cons sim_int (sim_cons sim_int (sim_cons sim_int (sim_cons (sim_lc (own := [("cell", 1)]) rfl sc__law_bag.nd gr (sim_scr hS few) (blkOk_by (N := ["script", "cell"]) (sc := defScope st__law_bag) (by decide +kernel)) (by decide) (fun s H C cl fp => sim_bname 1 sc__law_bag.nd) (fun s H C cl fp => sim_tsnil) (fun s H C cl fp => sim_callB cd_abs rfl (PySem.W.mg_none_of kin G z_abs) (by decide +kernel) (sim_cons (sim_var 1) sim_nil))) sim_nil))))))
    exact law_fn (k := 18) F_law sc_law rfl FB (by decide) g__law_bag k__law_bag b__law_bag rfl rfl (by first | exact Or.inl rfl | exact Or.inr (Or.inl rfl)) (by first | exact Or.inl rfl | exact Or.inr rfl) rfl (fun cdv A outer s H E Z ow Hb hc hgd hr hT gr => s_law B D__law_harp D__law_drawn_part D_pitches_at D_begins_at D_rings_at D__law_alike D_loudest D_last_tick D_span_of D__law_some D__law_take D__law_checked D_raised D_from_tick D_joined D_with_note D_without_note (tb (cc_law, pt_law) (by simp)) (fun f hf => by obtain rfl := one_ref hf g_law; exact ⟨_, _, _, _, l_law, rfl⟩) (by simp) (fun p m e => by
        simp only [List.mem_cons, List.not_mem_nil, or_false] at m
        rcases m with rfl
        · exact rfl) F__law_raised g__law_raised b__law_raised gC_BadScore gC_Nothing gC_TooLarge xf_BadScore nf_BadScore_number nf_BadScore_fault xf_TooLarge nf_TooLarge_what nf_TooLarge_limit ap__law_raised g_law hc hgd hr hT gr) v_law
end Pd
open PySem PySem.W PyProof.Rows
set_option maxRecDepth 100000 in
set_option maxHeartbeats 0 in
theorem PySem.Challenge.cw_sevenpedals_k04_words_of_scores_holds : PySem.Challenge.rw_sevenpedals_k04_words_of_scores.Holds := by
  w_on; o_law; k_head; (case hw => w_witness2)
  k_fill
  refine Pd.law_walk (l := PySem.Challenge.rw_sevenpedals_k04_words_of_scores) (n := 63) (k := 19) (x := "script") rfl (by decide) rfl ⟨rfl, by decide, by decide⟩ (fun w h Y => PySem.W.km_in_of Y) ?F
  case F =>
    intro w mg fa h Y kin G hmg
    refine' Pd.all_mk (l := PySem.Challenge.rw_sevenpedals_k04_words_of_scores) kin G hmg (PySem.W.km_tabs_of Y) ?a_is_number ?l_is_number ?c_is_number ?k_is_number ?a_is_index ?l_is_index ?c_is_index ?k_is_index ?a_is_sized ?l_is_sized ?c_is_sized ?k_is_sized ?a_is_tuple_of ?l_is_tuple_of ?c_is_tuple_of ?k_is_tuple_of ?a_is_note ?l_is_note ?c_is_note ?k_is_note ?a_is_score_form ?l_is_score_form ?c_is_score_form ?k_is_score_form ?a_check_note ?l_check_note ?c_check_note ?k_check_note ?a_checked_score ?l_checked_score ?c_checked_score ?k_checked_score ?a_last_tick ?l_last_tick ?c_last_tick ?k_last_tick ?a_rings_at ?l_rings_at ?c_rings_at ?k_rings_at ?a_begins_at ?l_begins_at ?c_begins_at ?k_begins_at ?a_pitches_at ?l_pitches_at ?c_pitches_at ?k_pitches_at ?a_raised ?l_raised ?c_raised ?k_raised ?a_from_tick ?l_from_tick ?c_from_tick ?k_from_tick ?a_joined ?l_joined ?c_joined ?k_joined ?a_with_note ?l_with_note ?c_with_note ?k_with_note ?a_without_note ?l_without_note ?c_without_note ?k_without_note ?a_loudest ?l_loudest ?c_loudest ?k_loudest ?a_span_of ?l_span_of ?c_span_of ?k_span_of ?a__law_take ?l__law_take ?c__law_take ?k__law_take ?a__law_some ?l__law_some ?c__law_some ?k__law_some ?a__law_mixed ?l__law_mixed ?c__law_mixed ?k__law_mixed ?a__law_alike ?l__law_alike ?c__law_alike ?k__law_alike ?a__law_harp ?l__law_harp ?c__law_harp ?k__law_harp ?a__law_letter ?l__law_letter ?c__law_letter ?k__law_letter ?a__law_open ?l__law_open ?c__law_open ?k__law_open ?a__law_pitch ?l__law_pitch ?c__law_pitch ?k__law_pitch ?a__law_setting ?l__law_setting ?c__law_setting ?k__law_setting ?a__law_fits ?l__law_fits ?c__law_fits ?k__law_fits ?a__law_left_many ?l__law_left_many ?c__law_left_many ?k__law_left_many ?a__law_last ?l__law_last ?c__law_last ?k__law_last ?a__law_moved ?l__law_moved ?c__law_moved ?k__law_moved ?a__law_drawn_part ?l__law_drawn_part ?c__law_drawn_part ?k__law_drawn_part ?a__law_checked ?l__law_checked ?c__law_checked ?k__law_checked ?a__law_raised ?l__law_raised ?c__law_raised ?k__law_raised ?a__law_bag ?l__law_bag ?c__law_bag ?k__law_bag ?a_law ?l_law ?c_law ?k_law ?h_law ?n_law ?m_law ?aC_BadScore ?kC_BadScore ?bC_BadScore ?tC_BadScore ?iC_BadScore ?sC_BadScore ?aC_Nothing ?xC_Nothing ?kC_Nothing ?bC_Nothing ?tC_Nothing ?iC_Nothing ?sC_Nothing ?aC_TooLarge ?kC_TooLarge ?bC_TooLarge ?tC_TooLarge ?iC_TooLarge ?sC_TooLarge ?sP_BadScore_Nothing ?sP_BadScore_TooLarge ?sP_Nothing_BadScore ?sP_Nothing_TooLarge ?sP_TooLarge_BadScore ?sP_TooLarge_Nothing ?xF_BadScore ?xF_TooLarge ?nF_BadScore_fault ?nF_BadScore_number ?nF_TooLarge_limit ?nF_TooLarge_what ?zz_third ?zz_super ?zz_top ?fX_BadScore ?lX_BadScore ?cX_BadScore ?tX_BadScore ?dX_BadScore ?vX_BadScore ?eX_BadScore ?gX_BadScore ?oX_BadScore ?rX_BadScore ?hX_BadScore ?iX_BadScore ?wX_BadScore ?mX_BadScore ?sX_BadScore ?aX_BadScore ?fX_TooLarge ?lX_TooLarge ?cX_TooLarge ?tX_TooLarge ?dX_TooLarge ?vX_TooLarge ?eX_TooLarge ?gX_TooLarge ?oX_TooLarge ?rX_TooLarge ?hX_TooLarge ?iX_TooLarge ?wX_TooLarge ?mX_TooLarge ?sX_TooLarge ?aX_TooLarge ?gV_LEAST_PITCH ?gW_LEAST_PITCH ?gV_MOST_NOTES ?gW_MOST_NOTES ?gV_MOST_PITCH ?gW_MOST_PITCH ?gV_MOST_TICKS ?gW_MOST_TICKS ?z_abs ?z_all ?z_bool ?z_enumerate ?z_int ?z_isinstance ?z_len ?z_list ?z_max ?z_min ?z_range ?z_repr ?z_set ?z_sorted ?z_tuple ?z_zip
    (case a_is_number => first | k_is | rfl)
    (case l_is_number => first | k_is | rfl)
    (case c_is_number => first | k_is | rfl)
    (case k_is_number => first | k_is | rfl)
    (case a_is_index => first | k_is | rfl)
    (case l_is_index => first | k_is | rfl)
    (case c_is_index => first | k_is | rfl)
    (case k_is_index => first | k_is | rfl)
    (case a_is_sized => first | k_is | rfl)
    (case l_is_sized => first | k_is | rfl)
    (case c_is_sized => first | k_is | rfl)
    (case k_is_sized => first | k_is | rfl)
    (case a_is_tuple_of => first | k_is | rfl)
    (case l_is_tuple_of => first | k_is | rfl)
    (case c_is_tuple_of => first | k_is | rfl)
    (case k_is_tuple_of => first | k_is | rfl)
    (case a_is_note => first | k_is | rfl)
    (case l_is_note => first | k_is | rfl)
    (case c_is_note => first | k_is | rfl)
    (case k_is_note => first | k_is | rfl)
    (case a_is_score_form => first | k_is | rfl)
    (case l_is_score_form => first | k_is | rfl)
    (case c_is_score_form => first | k_is | rfl)
    (case k_is_score_form => first | k_is | rfl)
    (case a_check_note => first | k_is | rfl)
    (case l_check_note => first | k_is | rfl)
    (case c_check_note => first | k_is | rfl)
    (case k_check_note => first | k_is | rfl)
    (case a_checked_score => first | k_is | rfl)
    (case l_checked_score => first | k_is | rfl)
    (case c_checked_score => first | k_is | rfl)
    (case k_checked_score => first | k_is | rfl)
    (case a_last_tick => first | k_is | rfl)
    (case l_last_tick => first | k_is | rfl)
    (case c_last_tick => first | k_is | rfl)
    (case k_last_tick => first | k_is | rfl)
    (case a_rings_at => first | k_is | rfl)
    (case l_rings_at => first | k_is | rfl)
    (case c_rings_at => first | k_is | rfl)
    (case k_rings_at => first | k_is | rfl)
    (case a_begins_at => first | k_is | rfl)
    (case l_begins_at => first | k_is | rfl)
    (case c_begins_at => first | k_is | rfl)
    (case k_begins_at => first | k_is | rfl)
    (case a_pitches_at => first | k_is | rfl)
    (case l_pitches_at => first | k_is | rfl)
    (case c_pitches_at => first | k_is | rfl)
    (case k_pitches_at => first | k_is | rfl)
    (case a_raised => first | k_is | rfl)
    (case l_raised => first | k_is | rfl)
    (case c_raised => first | k_is | rfl)
    (case k_raised => first | k_is | rfl)
    (case a_from_tick => first | k_is | rfl)
    (case l_from_tick => first | k_is | rfl)
    (case c_from_tick => first | k_is | rfl)
    (case k_from_tick => first | k_is | rfl)
    (case a_joined => first | k_is | rfl)
    (case l_joined => first | k_is | rfl)
    (case c_joined => first | k_is | rfl)
    (case k_joined => first | k_is | rfl)
    (case a_with_note => first | k_is | rfl)
    (case l_with_note => first | k_is | rfl)
    (case c_with_note => first | k_is | rfl)
    (case k_with_note => first | k_is | rfl)
    (case a_without_note => first | k_is | rfl)
    (case l_without_note => first | k_is | rfl)
    (case c_without_note => first | k_is | rfl)
    (case k_without_note => first | k_is | rfl)
    (case a_loudest => first | k_is | rfl)
    (case l_loudest => first | k_is | rfl)
    (case c_loudest => first | k_is | rfl)
    (case k_loudest => first | k_is | rfl)
    (case a_span_of => first | k_is | rfl)
    (case l_span_of => first | k_is | rfl)
    (case c_span_of => first | k_is | rfl)
    (case k_span_of => first | k_is | rfl)
    (case a__law_take => first | k_is | rfl)
    (case l__law_take => first | k_is | rfl)
    (case c__law_take => first | k_is | rfl)
    (case k__law_take => first | k_is | rfl)
    (case a__law_some => first | k_is | rfl)
    (case l__law_some => first | k_is | rfl)
    (case c__law_some => first | k_is | rfl)
    (case k__law_some => first | k_is | rfl)
    (case a__law_mixed => first | k_is | rfl)
    (case l__law_mixed => first | k_is | rfl)
    (case c__law_mixed => first | k_is | rfl)
    (case k__law_mixed => first | k_is | rfl)
    (case a__law_alike => first | k_is | rfl)
    (case l__law_alike => first | k_is | rfl)
    (case c__law_alike => first | k_is | rfl)
    (case k__law_alike => first | k_is | rfl)
    (case a__law_harp => first | k_is | rfl)
    (case l__law_harp => first | k_is | rfl)
    (case c__law_harp => first | k_is | rfl)
    (case k__law_harp => first | k_is | rfl)
    (case a__law_letter => first | k_is | rfl)
    (case l__law_letter => first | k_is | rfl)
    (case c__law_letter => first | k_is | rfl)
    (case k__law_letter => first | k_is | rfl)
    (case a__law_open => first | k_is | rfl)
    (case l__law_open => first | k_is | rfl)
    (case c__law_open => first | k_is | rfl)
    (case k__law_open => first | k_is | rfl)
    (case a__law_pitch => first | k_is | rfl)
    (case l__law_pitch => first | k_is | rfl)
    (case c__law_pitch => first | k_is | rfl)
    (case k__law_pitch => first | k_is | rfl)
    (case a__law_setting => first | k_is | rfl)
    (case l__law_setting => first | k_is | rfl)
    (case c__law_setting => first | k_is | rfl)
    (case k__law_setting => first | k_is | rfl)
    (case a__law_fits => first | k_is | rfl)
    (case l__law_fits => first | k_is | rfl)
    (case c__law_fits => first | k_is | rfl)
    (case k__law_fits => first | k_is | rfl)
    (case a__law_left_many => first | k_is | rfl)
    (case l__law_left_many => first | k_is | rfl)
    (case c__law_left_many => first | k_is | rfl)
    (case k__law_left_many => first | k_is | rfl)
    (case a__law_last => first | k_is | rfl)
    (case l__law_last => first | k_is | rfl)
    (case c__law_last => first | k_is | rfl)
    (case k__law_last => first | k_is | rfl)
    (case a__law_moved => first | k_is | rfl)
    (case l__law_moved => first | k_is | rfl)
    (case c__law_moved => first | k_is | rfl)
    (case k__law_moved => first | k_is | rfl)
    (case a__law_drawn_part => first | k_is | rfl)
    (case l__law_drawn_part => first | k_is | rfl)
    (case c__law_drawn_part => first | k_is | rfl)
    (case k__law_drawn_part => first | k_is | rfl)
    (case a__law_checked => first | k_is | rfl)
    (case l__law_checked => first | k_is | rfl)
    (case c__law_checked => first | k_is | rfl)
    (case k__law_checked => first | k_is | rfl)
    (case a__law_raised => first | k_is | rfl)
    (case l__law_raised => first | k_is | rfl)
    (case c__law_raised => first | k_is | rfl)
    (case k__law_raised => first | k_is | rfl)
    (case a__law_bag => first | k_is | rfl)
    (case l__law_bag => first | k_is | rfl)
    (case c__law_bag => first | k_is | rfl)
    (case k__law_bag => first | k_is | rfl)
    (case a_law => first | k_is | rfl)
    (case l_law => first | k_is | rfl)
    (case c_law => first | k_is | rfl)
    (case k_law => first | k_is | rfl)
    (first | ((case m_law => exact (.head _)); (case h_law => first | k_is | rfl)))
    (case n_law => first | k_is | rfl)
    skip
    (case aC_BadScore => first | k_is | rfl)
    (case kC_BadScore => first | k_is | rfl)
    (case bC_BadScore => first | k_is | rfl)
    (case tC_BadScore => first | k_is | rfl)
    (case iC_BadScore => first | k_is | rfl)
    (case sC_BadScore => first | k_is | rfl)
    (case aC_Nothing => first | k_is | rfl)
    (case xC_Nothing => k_exc)
    (case kC_Nothing => first | k_is | rfl)
    (case bC_Nothing => first | k_is | rfl)
    (case tC_Nothing => first | k_is | rfl)
    (case iC_Nothing => first | k_is | rfl)
    (case sC_Nothing => first | k_is | rfl)
    (case aC_TooLarge => first | k_is | rfl)
    (case kC_TooLarge => first | k_is | rfl)
    (case bC_TooLarge => first | k_is | rfl)
    (case tC_TooLarge => first | k_is | rfl)
    (case iC_TooLarge => first | k_is | rfl)
    (case sC_TooLarge => first | k_is | rfl)
    (case sP_BadScore_Nothing => first | k_is | rfl)
    (case sP_BadScore_TooLarge => first | k_is | rfl)
    (case sP_Nothing_BadScore => first | k_is | rfl)
    (case sP_Nothing_TooLarge => first | k_is | rfl)
    (case sP_TooLarge_BadScore => first | k_is | rfl)
    (case sP_TooLarge_Nothing => first | k_is | rfl)
    (case xF_BadScore => first | k_is | ks_is | rfl | kernel_rfl | decide +kernel)
    (case xF_TooLarge => first | k_is | ks_is | rfl | kernel_rfl | decide +kernel)
    (case nF_BadScore_fault => first | k_is | rfl)
    (case nF_BadScore_number => first | k_is | rfl)
    (case nF_TooLarge_limit => first | k_is | rfl)
    (case nF_TooLarge_what => first | k_is | rfl)
    (case zz_third => first | k_is | rfl)
    (case zz_super => first | k_is | rfl)
    (case zz_top => first | k_is | ks_is | rfl | kernel_rfl | decide +kernel)
    (case fX_BadScore => first | k_is | rfl)
    (case lX_BadScore => first | k_is | rfl)
    (case cX_BadScore => first | k_is | rfl)
    (case tX_BadScore => first | k_is | rfl)
    (case dX_BadScore => first | k_is | rfl)
    (case vX_BadScore => first | k_is | ks_is | rfl | kernel_rfl | decide +kernel)
    (case eX_BadScore => first | k_is | ks_is | rfl | kernel_rfl | decide +kernel)
    (case gX_BadScore => first | k_is | rfl)
    (case oX_BadScore => first | k_is | rfl)
    (case rX_BadScore => first | k_is | ks_is | rfl | kernel_rfl | decide +kernel)
    (case hX_BadScore => first | k_is | ks_is | rfl | kernel_rfl | decide +kernel)
    (case iX_BadScore => first | k_is | k_exc | kernel_rfl | rfl)
    (case wX_BadScore => first | k_is | rfl)
    (case mX_BadScore => first | k_is | rfl)
    (case sX_BadScore => first | k_is | ks_is | rfl | kernel_rfl | decide +kernel)
    (case aX_BadScore => first | k_is | rfl)
    (case fX_TooLarge => first | k_is | rfl)
    (case lX_TooLarge => first | k_is | rfl)
    (case cX_TooLarge => first | k_is | rfl)
    (case tX_TooLarge => first | k_is | rfl)
    (case dX_TooLarge => first | k_is | rfl)
    (case vX_TooLarge => first | k_is | ks_is | rfl | kernel_rfl | decide +kernel)
    (case eX_TooLarge => first | k_is | ks_is | rfl | kernel_rfl | decide +kernel)
    (case gX_TooLarge => first | k_is | rfl)
    (case oX_TooLarge => first | k_is | rfl)
    (case rX_TooLarge => first | k_is | ks_is | rfl | kernel_rfl | decide +kernel)
    (case hX_TooLarge => first | k_is | ks_is | rfl | kernel_rfl | decide +kernel)
    (case iX_TooLarge => first | k_is | k_exc | kernel_rfl | rfl)
    (case wX_TooLarge => first | k_is | rfl)
    (case mX_TooLarge => first | k_is | rfl)
    (case sX_TooLarge => first | k_is | ks_is | rfl | kernel_rfl | decide +kernel)
    (case aX_TooLarge => first | k_is | rfl)
    (case gV_LEAST_PITCH => first | k_is | rfl)
    (case gW_LEAST_PITCH => first | exact Pd.valD_int _ _ _ _ | exact Pd.valD_str _ _ _ _ | exact Pd.valD_bool _ _ _ | exact Pd.valD_none _ _ | k_is | rfl)
    (case gV_MOST_NOTES => first | k_is | rfl)
    (case gW_MOST_NOTES => first | exact Pd.valD_int _ _ _ _ | exact Pd.valD_str _ _ _ _ | exact Pd.valD_bool _ _ _ | exact Pd.valD_none _ _ | k_is | rfl)
    (case gV_MOST_PITCH => first | k_is | rfl)
    (case gW_MOST_PITCH => first | exact Pd.valD_int _ _ _ _ | exact Pd.valD_str _ _ _ _ | exact Pd.valD_bool _ _ _ | exact Pd.valD_none _ _ | k_is | rfl)
    (case gV_MOST_TICKS => first | k_is | rfl)
    (case gW_MOST_TICKS => first | exact Pd.valD_int _ _ _ _ | exact Pd.valD_str _ _ _ _ | exact Pd.valD_bool _ _ _ | exact Pd.valD_none _ _ | k_is | rfl)
    (case z_abs => first | k_is | rfl)
    (case z_all => first | k_is | rfl)
    (case z_bool => first | k_is | rfl)
    (case z_enumerate => first | k_is | rfl)
    (case z_int => first | k_is | rfl)
    (case z_isinstance => first | k_is | rfl)
    (case z_len => first | k_is | rfl)
    (case z_list => first | k_is | rfl)
    (case z_max => first | k_is | rfl)
    (case z_min => first | k_is | rfl)
    (case z_range => first | k_is | rfl)
    (case z_repr => first | k_is | rfl)
    (case z_set => first | k_is | rfl)
    (case z_sorted => first | k_is | rfl)
    (case z_tuple => first | k_is | rfl)
    (case z_zip => first | k_is | rfl)
