import PyProof.Rows.All
import Wide.All
import OpenK.AllK
import Wide.FinOn
import PyProof.ReprRoads
import PySem.Challenge.RW_sevenpedals_k14_ways_that_lead_to_one_po
import HandS.ForMost
import HandS.ForExc
import HandS.Lambda
import HandS.CallSlots
import HandS.IsInst
import HandS.TupAny
import HandS.Style
import KE.DataEq
import KE.DataIsa
import KE.DataAny
import KE.DataMinMax
import KE.SortData
import KE.KTupSum
import HandS.Star
import HandS.Zip
import HandS.SetFor
import HandS.Nested
import HandS.WordsExc
import HandS.Small
import HandS.Strs
import HandS.Iter
import HandS.EndTab
set_option Elab.async false
set_option linter.all false
set_option maxRecDepth 100000
/-! Pd1: data over the abstract heap: what a value is worth as data, what stays of it, the environment by slots. -/
namespace Pd
open PySem PySem.Spec PyProof.Rows L2

abbrev D := PyData
def keyD : L2.Key → D
  | .inl i => .int i
  | .inr x => .str x

mutual
/-- the value v is the data d, by what stands in H -/
inductive Dt (K : PySem.W.Frag) (H : Hp) : V → D → Prop
  | non : Dt K H .non .none
  | bl (b : Bool) : Dt K H (.bl b) (.bool b)
  | int (i : Int) : Dt K H (.int i) (.int i)
  | str (x : Str) : Dt K H (.str x) (.str x)
  | lst {a : Addr} {xs : List V} {ds : List D} : H a = some (.lst xs) → DtAll K H xs ds → Dt K H (.ref a) (.list ds)
  | tup {a : Addr} {xs : List V} {ds : List D} : SqT K H a xs → DtAll K H xs ds → Dt K H (.ref a) (.tuple ds)
inductive DtAll (K : PySem.W.Frag) (H : Hp) : List V → List D → Prop
  | nil : DtAll K H [] []
  | cons {v : V} {vs : List V} {d : D} {ds : List D} : Dt K H v d → DtAll K H vs ds → DtAll K H (v :: vs) (d :: ds)
end

/-- what stands stays -/
def Le (H H' : Hp) : Prop := ∀ a o, H a = some o → H' a = some o
theorem Le.refl (H : Hp) : Le H H := fun _ _ h => h
theorem Le.trans {A B C : Hp} (x : Le A B) (y : Le B C) : Le A C := fun a o h => y a o (x a o h)
theorem Le.sqt {K : PySem.W.Frag} {H H' : Hp} {a : Addr} {xs : List V} (e : Le H H') (h : SqT K H a xs) : SqT K H' a xs := by
  rcases h with (h | ⟨o, h⟩) | h
  · exact .inl (.inl (e _ _ h))
  · exact .inl (.inr ⟨o, e _ _ h⟩)
  · exact .inr h

mutual
theorem Dt.mono {K : PySem.W.Frag} {H H' : Hp} (e : Le H H') : ∀ {v : V} {d : D}, Dt K H v d → Dt K H' v d
  | _, _, .non => .non
  | _, _, .bl b => .bl b
  | _, _, .int i => .int i
  | _, _, .str x => .str x
  | _, _, .lst h t => .lst (e _ _ h) (DtAll.mono e t)
  | _, _, .tup h t => .tup (e.sqt h) (DtAll.mono e t)
theorem DtAll.mono {K : PySem.W.Frag} {H H' : Hp} (e : Le H H') : ∀ {vs : List V} {ds : List D}, DtAll K H vs ds → DtAll K H' vs ds
  | _, _, .nil => .nil
  | _, _, .cons h t => .cons (Dt.mono e h) (DtAll.mono e t)
end
mutual
theorem Dt.dp {K : PySem.W.Frag} {H : Hp} : ∀ {v : V} {d : D}, Dt K H v d → Dp K H v d
  | _, _, .non => .non
  | _, _, .bl b => .bl b
  | _, _, .int i => .int i
  | _, _, .str x => .str x
  | _, _, .lst h t => .lst (.inl (.of h)) (DtAll.dp t)
  | _, _, .tup h t => .tup h (DtAll.dp t)
theorem DtAll.dp {K : PySem.W.Frag} {H : Hp} : ∀ {vs : List V} {ds : List D}, DtAll K H vs ds → DpAll K H vs ds
  | _, _, .nil => .nil
  | _, _, .cons h t => .cons (Dt.dp h) (DtAll.dp t)
end
theorem DtAll.length {K : PySem.W.Frag} {H : Hp} : ∀ {vs : List V} {ds : List D}, DtAll K H vs ds → vs.length = ds.length
  | _, _, .nil => rfl
  | _, _, .cons _ t => by simp [DtAll.length t]
theorem DtAll.append {K : PySem.W.Frag} {H : Hp} : ∀ {vs ws : List V} {ds es : List D}, DtAll K H vs ds → DtAll K H ws es → DtAll K H (vs ++ ws) (ds ++ es)
  | _, _, _, _, .nil, s => s
  | _, _, _, _, .cons h t, s => .cons h (DtAll.append t s)
theorem DtAll.get {K : PySem.W.Frag} {H : Hp} : ∀ {vs : List V} {ds : List D} {i : Nat} {d : D}, DtAll K H vs ds → ds[i]? = some d → ∃ v, vs[i]? = some v ∧ Dt K H v d
  | _, _, _, _, .nil, e => by simp at e
  | _, _, 0, _, .cons h _, e => by simp at e; subst e; exact ⟨_, rfl, h⟩
  | _, _, i + 1, _, .cons _ t, e => by
    obtain ⟨v, h1, h2⟩ := DtAll.get (i := i) t (by simpa using e)
    exact ⟨v, by simpa using h1, h2⟩
theorem DtAll.get' {K : PySem.W.Frag} {H : Hp} : ∀ {vs : List V} {ds : List D} {i : Nat} {v : V}, DtAll K H vs ds → vs[i]? = some v → ∃ d, ds[i]? = some d ∧ Dt K H v d
  | _, _, _, _, .nil, e => by simp at e
  | _, _, 0, _, .cons h _, e => by simp at e; subst e; exact ⟨_, rfl, h⟩
  | _, _, i + 1, _, .cons _ t, e => by
    obtain ⟨d, h1, h2⟩ := DtAll.get' (i := i) t (by simpa using e)
    exact ⟨d, by simpa using h1, h2⟩
theorem DtAll.take {K : PySem.W.Frag} {H : Hp} : ∀ {vs : List V} {ds : List D} (n : Nat), DtAll K H vs ds → DtAll K H (vs.take n) (ds.take n)
  | _, _, 0, _ => .nil
  | _, _, _ + 1, .nil => .nil
  | _, _, n + 1, .cons h t => .cons h (DtAll.take n t)
theorem DtAll.drop {K : PySem.W.Frag} {H : Hp} : ∀ {vs : List V} {ds : List D} (n : Nat), DtAll K H vs ds → DtAll K H (vs.drop n) (ds.drop n)
  | _, _, 0, r => r
  | _, _, _ + 1, .nil => .nil
  | _, _, n + 1, .cons _ t => DtAll.drop n t
theorem DtAll.set {K : PySem.W.Frag} {H : Hp} {v : V} {d : D} (h : Dt K H v d) : ∀ {vs : List V} {ds : List D} (n : Nat), DtAll K H vs ds → DtAll K H (vs.set n v) (ds.set n d)
  | _, _, _, .nil => .nil
  | _, _, 0, .cons _ t => .cons h t
  | _, _, n + 1, .cons g t => .cons g (DtAll.set h n t)
theorem DtAll.reverse {K : PySem.W.Frag} {H : Hp} : ∀ {vs : List V} {ds : List D}, DtAll K H vs ds → DtAll K H vs.reverse ds.reverse
  | _, _, .nil => .nil
  | _, _, .cons h t => by
    rw [List.reverse_cons, List.reverse_cons]
    exact (DtAll.reverse t).append (.cons h .nil)
/-- ints -/
theorem DtAll.ints {K : PySem.W.Frag} {H : Hp} : ∀ {vs : List V} {ns : List Int}, DtAll K H vs (ns.map .int) → vs = ns.map .int
  | _, [], .nil => rfl
  | _, n :: ns, .cons h t => by
    cases h
    rw [DtAll.ints t]
    rfl
theorem DtAll.ofInts {K : PySem.W.Frag} {H : Hp} : ∀ (ns : List Int), DtAll K H (ns.map .int) (ns.map .int)
  | [] => .nil
  | n :: ns => .cons (.int n) (DtAll.ofInts ns)
theorem DtAll.strs {K : PySem.W.Frag} {H : Hp} : ∀ {vs : List V} {ns : List Str}, DtAll K H vs (ns.map .str) → vs = ns.map .str
  | _, [], .nil => rfl
  | _, n :: ns, .cons h t => by
    cases h
    rw [DtAll.strs t]
    rfl
theorem DtAll.ofStrs {K : PySem.W.Frag} {H : Hp} : ∀ (ns : List Str), DtAll K H (ns.map .str) (ns.map .str)
  | [] => .nil
  | n :: ns => .cons (.str n) (DtAll.ofStrs ns)
theorem DtAll.bools {K : PySem.W.Frag} {H : Hp} : ∀ {vs : List V} {ns : List Bool}, DtAll K H vs (ns.map .bool) → vs = ns.map .bl
  | _, [], .nil => rfl
  | _, n :: ns, .cons h t => by
    cases h
    rw [DtAll.bools t]
    rfl

/-! ### the heap without some addresses; code objects' tables stand aside -/
/-- no table -/
def NT (o : HO) : Prop := ∀ ps, o ≠ .tbl ps
theorem nt_lst {xs : List V} : NT (.lst xs) := fun _ z => nomatch z
theorem nt_tup {xs : List V} : NT (.tup xs) := fun _ z => nomatch z
def hid (ow : List Addr) (H : Hp) : Hp := fun a => if a ∈ ow then none else match H a with
  | some (.tbl _) => none
  | o => o
theorem hid_some {ow : List Addr} {H : Hp} {a : Addr} {o : HO} (h : hid ow H a = some o) : a ∉ ow ∧ H a = some o ∧ NT o := by
  unfold hid at h
  by_cases m : a ∈ ow
  · rw [if_pos m] at h; cases h
  · rw [if_neg m] at h
    split at h
    · cases h
    · rename_i n
      exact ⟨m, h, fun ps z => n ps (by rw [h, z])⟩
theorem hid_of {ow : List Addr} {H : Hp} {a : Addr} {o : HO} (m : a ∉ ow) (h : H a = some o) (n : NT o) : hid ow H a = some o := by
  unfold hid
  rw [if_neg m]
  split
  · rename_i ps e
    rw [h] at e
    exact absurd (Option.some.inj e) (n ps)
  · exact h
theorem hid_le {ow : List Addr} {H : Hp} : Le (hid ow H) H := fun _ _ h => (hid_some h).2.1
/-- but at fp (and but for tables) what stands stays -/
def SameBut (fp : List Addr) (H H' : Hp) : Prop := ∀ a o, a ∉ fp → NT o → H a = some o → H' a = some o
theorem SameBut.refl (fp : List Addr) (H : Hp) : SameBut fp H H := fun _ _ _ _ h => h
theorem SameBut.trans {fp : List Addr} {A B C : Hp} (x : SameBut fp A B) (y : SameBut fp B C) : SameBut fp A C := fun a o n t h => y a o n t (x a o n t h)
theorem SameBut.of_le {fp : List Addr} {H H' : Hp} (h : Le H H') : SameBut fp H H' := fun a o _ _ e => h a o e
theorem Le.new {H : Hp} {p : Addr} {o : HO} (h : H p = none) : Le H (upd H p o) := fun a u e => by
  rw [upd_ne (ne_of_none e h)]
  exact e
theorem SameBut.new {fp : List Addr} {H : Hp} {p : Addr} {o : HO} (h : H p = none) : SameBut fp H (upd H p o) := .of_le (Le.new h)
/-- nothing stands at p (but perhaps a table) -/
def New (H : Hp) (p : Addr) : Prop := ∀ o, NT o → H p ≠ some o
theorem New.of {H : Hp} {p : Addr} (h : H p = none) : New H p := fun o _ e => by rw [h] at e; cases e
theorem SameBut.free {fp : List Addr} {H H' : Hp} (e : SameBut fp H H') {l : Addr} (n : l ∉ fp) (h : New H' l) : New H l := fun o t q => h o t (e l o n t q)
theorem hid_mono {fp ow ow' : List Addr} {H H' : Hp} (e : SameBut fp H H') (hf : ∀ a ∈ fp, a ∈ ow) (ho : ∀ a ∈ ow', a ∈ ow ∨ New H a) : Le (hid ow H) (hid ow' H') := fun a o h => by
  obtain ⟨n, q, t⟩ := hid_some h
  refine hid_of (fun m => ?_) (e a o (fun m => n (hf a m)) t q) t
  rcases ho a m with z | z
  · exact n z
  · exact z o t q

/-! ### the law's bag, the tables -/
/-- the bag at b, its cells at c -/
def BagAt (H : Hp) (b c : Addr) : Prop := ∃ (b0 b1 b2 : Int) (cells : List Int), H b = some (.lst [.int b0, .int b1, .int b2, .ref c]) ∧ H c = some (.lst (cells.map V.int)) ∧
  0 ≤ b0 ∧ 0 ≤ b1 ∧ b1 < 2147483648 ∧ 0 ≤ b2 ∧ (∀ n ∈ cells, 0 ≤ n) ∧ cells.length ≤ 63 ∧ b ≠ c
structure Ext where
  bag : Option (Addr × Addr)
  tabs : List (Addr × Str)
  /-- things that stay as they are: function objects, code objects -/
  fns : List (Addr × (Heap → Prop))
def fpB : Option (Addr × Addr) → List Addr
  | none => []
  | some (b, c) => [b, c]
def fp (Z : Ext) : List Addr := fpB Z.bag
def RB : Option (Addr × Addr) → Hp → Prop
  | none, _ => True
  | some (b, c), H => BagAt H b c
def RF (fns : List (Addr × (Heap → Prop))) (H : Hp) : Prop := ∀ p ∈ fns, H p.1 = some (.ext p.2)
structure RZ (Z : Ext) (H : Hp) : Prop where
  bag : RB Z.bag H
  tabs : LamX.Tabs Z.tabs H
  fns : RF Z.fns H
theorem RB.frame {z : Option (Addr × Addr)} {H H' : Hp} (h : RB z H) (e : ∀ a ∈ fpB z, H' a = H a) : RB z H' := by
  cases z with
  | none => exact True.intro
  | some z =>
    obtain ⟨b, c⟩ := z
    obtain ⟨b0, b1, b2, cs, h1, h2, h3⟩ := h
    exact ⟨b0, b1, b2, cs, (e b (by simp [fpB])).trans h1, (e c (by simp [fpB])).trans h2, h3⟩
theorem RZ.there {Z : Ext} {H : Hp} (h : RZ Z H) : ∀ a ∈ fp Z, ∃ o, NT o ∧ H a = some o := by
  obtain ⟨h, _, _⟩ := h
  obtain ⟨z, T, F⟩ := Z
  cases z with
  | none => intro a m; simp [fp, fpB] at m
  | some z =>
    obtain ⟨b, c⟩ := z
    obtain ⟨b0, b1, b2, cs, h1, h2, h3⟩ := h
    intro a m
    simp [fp, fpB] at m
    rcases m with rfl | rfl
    · exact ⟨_, nt_lst, h1⟩
    · exact ⟨_, nt_lst, h2⟩
theorem RZ.le {Z : Ext} {H H' : Hp} (h : RZ Z H) (e : Le H H') : RZ Z H' := ⟨h.bag.frame fun a m => by
  obtain ⟨o, _, q⟩ := h.there a m
  rw [q, e a o q], h.tabs.ext e, fun p m => e _ _ (h.fns p m)⟩
/-- a list is written -/
theorem RZ.upd {Z : Ext} {H : Hp} {p : Addr} {us : List V} {o : HO} (h : RZ Z H) (n : p ∉ fp Z) (e : H p = some (.lst us)) : RZ Z (upd H p o) := by
  refine ⟨h.bag.frame fun a m => upd_ne fun q => n (q ▸ m), fun t ht => ?_, fun p' m => ?_⟩
  rotate_left
  · rw [upd_ne (ne_of (h.fns p' m) e (by intro z; cases z))]
    exact h.fns p' m
  obtain ⟨ps, h1, h2, h3⟩ := h.tabs t ht
  refine ⟨ps, by rw [upd_ne (ne_of h1 e (by intro z; cases z))]; exact h1, h2, fun pos cv hc => ?_⟩
  obtain ⟨c, e1, e2⟩ := h3 pos cv hc
  exact ⟨c, e1, by rw [upd_ne (ne_of e2 e (by intro z; unfold LamX.CodeO at z; cases z))]; exact e2⟩

/-! ### values -/
/-- a callable of one argument: what it tells of data, by a predicate transformer -/
abbrev Fn1 := D → (D → Prop) → Prop
inductive Val where
  | d (x : D)
  | own (xs : List D)
  | bor (xs : List D)
  | bag
  | fn (f : Addr) (φ : Fn1)
/-- as data, to be read -/
def Val.rd : Val → Option D
  | .d x => some x
  | .own xs => some (.list xs)
  | .bor xs => some (.list xs)
  | _ => none
/-- as data, to be kept -/
def Val.kp : Val → Option D
  | .d x => some x
  | .own xs => some (.list xs)
  | _ => none
abbrev Ev := List (Option Val)
structure Xn where
  cls : Str
  args : List (Str × D)

/-- what calls of the value at f tell; CL stands for the callables that are known -/
abbrev Calls := Addr → Fn1 → Prop

/-- v is y in H; H0: the heap at the expression's beginning; ow: the owned lists -/
def RV (CL : Calls) (Z : Ext) (K : PySem.W.Frag) (ow : List Addr) (H0 H : Hp) (v : V) : Val → Prop
  | .d x => Dt K (hid ow H) v x
  | .own xs => ∃ p vs, v = .ref p ∧ New H0 p ∧ p ∉ ow ∧ H p = some (.lst vs) ∧ DtAll K (hid (p :: ow) H) vs xs
  | .bor xs => ∃ p vs, v = .ref p ∧ p ∈ ow ∧ p ∉ fp Z ∧ H p = some (.lst vs) ∧ DtAll K (hid ow H) vs xs
  | .bag => ∃ b c, Z.bag = some (b, c) ∧ v = .ref b
  | .fn f φ => v = .ref f ∧ CL f φ
theorem hid_tail {p : Addr} {ow : List Addr} {H : Hp} : Le (hid (p :: ow) H) (hid ow H) := fun a o h => by
  obtain ⟨n, q, t⟩ := hid_some h
  exact hid_of (fun m => n (List.mem_cons_of_mem _ m)) q t
/-- read as data -/
theorem RV.rd {CL : Calls} {Z : Ext} {K : PySem.W.Frag} {ow : List Addr} {H0 H : Hp} {v : V} {y : Val} {d : D} (h : RV CL Z K ow H0 H v y) (e : y.rd = some d) : Dt K H v d := by
  cases y with
  | d x => cases e; exact Dt.mono hid_le h
  | own xs =>
    cases e
    obtain ⟨p, vs, rfl, _, _, hp, ha⟩ := h
    exact .lst hp (DtAll.mono hid_le ha)
  | bor xs =>
    cases e
    obtain ⟨p, vs, rfl, _, _, hp, ha⟩ := h
    exact .lst hp (DtAll.mono hid_le ha)
  | bag => cases e
  | fn f φ => cases e
/-- kept as data -/
theorem RV.kp {CL : Calls} {Z : Ext} {K : PySem.W.Frag} {ow : List Addr} {H0 H : Hp} {v : V} {y : Val} {d : D} (h : RV CL Z K ow H0 H v y) (e : y.kp = some d) : Dt K (hid ow H) v d := by
  cases y with
  | d x => cases e; exact h
  | own xs =>
    cases e
    obtain ⟨p, vs, rfl, _, n, hp, ha⟩ := h
    exact .lst (hid_of n hp nt_lst) (DtAll.mono hid_tail ha)
  | bor xs => cases e
  | bag => cases e
  | fn f φ => cases e
/-- it stays -/
theorem RV.stay {CL : Calls} {Z : Ext} {K : PySem.W.Frag} {ow : List Addr} {H0 H H' : Hp} {v : V} {y : Val} (h : RV CL Z K ow H0 H v y) (e : SameBut (fp Z) H H') (hf : ∀ a ∈ fp Z, a ∈ ow) : RV CL Z K ow H0 H' v y := by
  have m : Le (hid ow H) (hid ow H') := hid_mono e hf fun a h => .inl h
  cases y with
  | d x => exact Dt.mono m h
  | own xs =>
    obtain ⟨p, vs, rfl, h0, n, hp, ha⟩ := h
    exact ⟨p, vs, rfl, h0, n, e p _ (fun z => n (hf p z)) nt_lst hp, DtAll.mono (hid_mono e (fun a h => List.mem_cons_of_mem _ (hf a h)) fun a h => .inl h) ha⟩
  | bor xs =>
    obtain ⟨p, vs, rfl, n, z, hp, ha⟩ := h
    exact ⟨p, vs, rfl, n, z, e p _ z nt_lst hp, DtAll.mono m ha⟩
  | bag => exact h
  | fn f φ => exact h
end Pd

/-! Pd2: what a statement's run means over data: the relation, the judgements, names, operators. -/
namespace Pd
open PySem PySem.Spec PyProof.Rows L2

/-- the ground of a heap: the bag, the owned addresses -/
structure Gr (Z : Ext) (ow : List Addr) (H : Hp) : Prop where
  ext : RZ Z H
  fpo : ∀ a ∈ fp Z, a ∈ ow
  isS : ∀ a ∈ ow, ∃ o, NT o ∧ H a = some o
theorem Gr.step {Z : Ext} {ow : List Addr} {H H' : Hp} (g : Gr Z ow H) (e : SameBut (fp Z) H H') (r : RZ Z H') : Gr Z ow H' := ⟨r, g.fpo, fun a m => by
  by_cases z : a ∈ fp Z
  · exact r.there a z
  · obtain ⟨o, t, q⟩ := g.isS a m
    exact ⟨o, t, e a o z t q⟩⟩
theorem Gr.no {Z : Ext} {ow : List Addr} {H : Hp} (g : Gr Z ow H) {a : Addr} (h : New H a) : a ∉ ow := fun m => by
  obtain ⟨o, t, q⟩ := g.isS a m
  exact h o t q

section
variable (CL : Calls) (Z : Ext) (K : PySem.W.Frag) (ow : List Addr)
/-- what is wanted of each value that P tells -/
def Gd (H0 : Hp) (P : Val → Prop) (Q : VK) : Prop := ∀ y v H', P y → SameBut (fp Z) H0 H' → RZ Z H' → RV CL Z K ow H0 H' v y → Q v H'
/-- an exception as it lies -/
def ExR (mg : Str → Option Value) (x : Xn) (cls : Value) (d : Option Addr) (H : Hp) : Prop :=
  (∃ C, mg x.cls = some (.ref C) ∧ cls = .ref C) ∧ (x.args ≠ [] → ∃ dx fs, d = some dx ∧ H dx = some (.xd fs) ∧ fs.map (·.1) = x.args.map (·.1) ∧ DtAll K (hid ow H) (fs.map (·.2)) (x.args.map (·.2)))
def Bd (mg : Str → Option Value) (W : WX) (σ : L2.St) (H0 : Hp) (Ex : Xn → Prop) : Prop := ∀ x cls d H', Ex x → ExR K ow mg x cls d H' → SameBut (fp Z) H0 H' → RZ Z H' → W cls d σ H'
end
section
variable {CL : Calls} {Z : Ext} {K : PySem.W.Frag} {ow : List Addr} {H0 H1 : Hp}
theorem RV.back {H : Hp} {v : V} {y : Val} (h : RV CL Z K ow H1 H v y) (e : SameBut (fp Z) H0 H1) (hf : ∀ a ∈ fp Z, a ∈ ow) : RV CL Z K ow H0 H v y := by
  cases y with
  | own xs =>
    obtain ⟨p, vs, rfl, h0, n, hp, ha⟩ := h
    exact ⟨p, vs, rfl, e.free (fun z => n (hf p z)) h0, n, hp, ha⟩
  | d x => exact h
  | bor xs => exact h
  | bag => exact h
  | fn f φ => exact h
theorem Gd.step {P : Val → Prop} {Q : VK} (g : Gd CL Z K ow H0 P Q) (e : SameBut (fp Z) H0 H1) (hf : ∀ a ∈ fp Z, a ∈ ow) : Gd CL Z K ow H1 P Q :=
  fun y v H' p s r h => g y v H' p (e.trans s) r (h.back e hf)
theorem Bd.step {mg : Str → Option Value} {W : WX} {σ : L2.St} {Ex : Xn → Prop} (g : Bd Z K ow mg W σ H0 Ex) (e : SameBut (fp Z) H0 H1) : Bd Z K ow mg W σ H1 Ex :=
  fun x cls d H' p r s z => g x cls d H' p r (e.trans s) z
theorem Gd.dat {P : Val → Prop} {Q : VK} (g : Gd CL Z K ow H0 P Q) {x : D} {v : V} {H' : Hp} (p : P (.d x)) (e : Le H0 H') (r : RZ Z H0) (h : Dt K (hid ow H') v x) : Q v H' :=
  g (.d x) v H' p (.of_le e) (r.le e) h
/-- a scalar, the heap as it is -/
theorem Gd.sc {P : Val → Prop} {Q : VK} (g : Gd CL Z K ow H0 P Q) {x : D} {v : V} (p : P (.d x)) (r : RZ Z H0) (h : ∀ H, Dt K H v x) : Q v H0 :=
  g (.d x) v H0 p (.refl _ _) r (h _)
/-- a new tuple -/
theorem Gd.tup {P : Val → Prop} {Q : VK} (g : Gd CL Z K ow H0 P Q) {xs : List D} {vs : List V} {a : Addr} (p : P (.d (.tuple xs))) (gr : Gr Z ow H0) (n : H0 a = none) (h : DtAll K (hid ow H0) vs xs) : Q (.ref a) (upd H0 a (.tup vs)) := by
  refine g.dat p (Le.new n) gr.ext (.tup (.inl (.of (hid_of (gr.no (.of n)) upd_same nt_tup))) (DtAll.mono (fun b o e => ?_) h))
  obtain ⟨m, q, t⟩ := hid_some e
  exact hid_of m (Le.new n b o q) t
/-- a new list -/
theorem Gd.lst {P : Val → Prop} {Q : VK} (g : Gd CL Z K ow H0 P Q) {xs : List D} {vs : List V} {a : Addr} (p : P (.own xs)) (gr : Gr Z ow H0) (n : H0 a = none) (h : DtAll K (hid ow H0) vs xs) : Q (.ref a) (upd H0 a (.lst vs)) := by
  refine g (.own xs) _ _ p (.of_le (Le.new n)) (gr.ext.le (Le.new n)) ⟨a, vs, rfl, .of n, gr.no (.of n), upd_same, DtAll.mono (fun b o e => ?_) h⟩
  obtain ⟨m, q, t⟩ := hid_some e
  refine hid_of (fun z => ?_) (Le.new n b o q) t
  rcases List.mem_cons.mp z with rfl | z
  · rw [n] at q; cases q
  · exact m z
end

/-! ### the environment -/
/-- a slot's value; Hb: the heap at the def's entry -/
def SV (CL : Calls) (Z : Ext) (K : PySem.W.Frag) (ow : List Addr) (Hb H : Hp) (v : V) : Val → Prop
  | .d x => Dt K (hid ow H) v x
  | .own xs => ∃ p vs, v = .ref p ∧ New Hb p ∧ p ∈ ow ∧ p ∉ fp Z ∧ H p = some (.lst vs) ∧ DtAll K (hid ow H) vs xs
  | .bor xs => False
  | .bag => ∃ b c, Z.bag = some (b, c) ∧ v = .ref b
  | .fn f φ => v = .ref f ∧ CL f φ
theorem SV.stay {CL : Calls} {Z : Ext} {K : PySem.W.Frag} {ow : List Addr} {Hb H H' : Hp} {v : V} {y : Val} (h : SV CL Z K ow Hb H v y) (e : SameBut (fp Z) H H') (hf : ∀ a ∈ fp Z, a ∈ ow) : SV CL Z K ow Hb H' v y := by
  have m : Le (hid ow H) (hid ow H') := hid_mono e hf fun a h => .inl h
  cases y with
  | d x => exact Dt.mono m h
  | own xs =>
    obtain ⟨p, vs, rfl, h0, n, z, hp, ha⟩ := h
    exact ⟨p, vs, rfl, h0, n, z, e p _ z nt_lst hp, DtAll.mono m ha⟩
  | bor xs => exact h
  | bag => exact h
  | fn f φ => exact h

/-- ow0: what was owned at the def's entry -/
structure Rel (CL : Calls) (Z : Ext) (K : PySem.W.Frag) (ow0 : List Addr) (Hb : Hp) (S : Hp) (ρ : Ev) (σ : L2.St) (H : Hp) (ow : List Addr) : Prop where
  gr : Gr Z ow H
  len : σ.length = ρ.length
  sb : SameBut (fp Z) Hb H
  sub : ∀ a ∈ ow0, a ∈ ow
  mark : Le S (hid ow H)
  val : ∀ (i : Nat) (y : Val), ρ[i]? = some (some y) → ∃ v, σ[i]? = some (some v) ∧ SV CL Z K ow Hb H v y
  sep : ∀ (i j : Nat) (xs ys : List D) (p : Addr), i ≠ j → ρ[i]? = some (some (.own xs)) → ρ[j]? = some (some (.own ys)) → σ[i]? = some (some (V.ref p)) → σ[j]? = some (some (V.ref p)) → False
section
variable {CL : Calls} {Z : Ext} {K : PySem.W.Frag} {ow0 ow : List Addr} {Hb S H H' : Hp} {ρ : Ev} {σ : L2.St}
theorem Rel.step (r : Rel CL Z K ow0 Hb S ρ σ H ow) (e : SameBut (fp Z) H H') (z : RZ Z H') : Rel CL Z K ow0 Hb S ρ σ H' ow :=
  ⟨r.gr.step e z, r.len, r.sb.trans e, r.sub, r.mark.trans (hid_mono e r.gr.fpo fun _ m => .inl m), fun i y h => by
    obtain ⟨v, h1, h2⟩ := r.val i y h
    exact ⟨v, h1, h2.stay e r.gr.fpo⟩, r.sep⟩
/-- fewer slots are known -/
theorem Rel.weak {ρ' : Ev} {σ' : L2.St} (r : Rel CL Z K ow0 Hb S ρ σ H ow) (hl : σ'.length = ρ'.length) (h : ∀ (i : Nat) (y : Val), ρ'[i]? = some (some y) → ρ[i]? = some (some y) ∧ σ'[i]? = σ[i]?) : Rel CL Z K ow0 Hb S ρ' σ' H ow :=
  ⟨r.gr, hl, r.sb, r.sub, r.mark, fun i y e => by
    obtain ⟨h1, h2⟩ := h i y e
    obtain ⟨v, q1, q2⟩ := r.val i y h1
    exact ⟨v, h2.trans q1, q2⟩, fun i j xs ys p n e1 e2 e3 e4 => by
    obtain ⟨h1, h2⟩ := h i _ e1
    obtain ⟨g1, g2⟩ := h j _ e2
    exact r.sep i j xs ys p n h1 g1 (h2 ▸ e3) (g2 ▸ e4)⟩
end

/-! ### judgements -/
abbrev WE := Ev → (Val → Prop) → (Xn → Prop) → Prop
abbrev WT := Ev → (Bool → Prop) → (Xn → Prop) → Prop
abbrev WA := Ev → (List Val → Prop) → (Xn → Prop) → Prop
structure En where
  nx : Ev → Prop
  rt : Val → Prop
  bk : Ev → Prop := fun _ => False
  ct : Ev → Prop := fun _ => False
  ex : Xn → Ev → Prop := fun _ _ => False
abbrev WS := En → Ev → Prop

def PEat (X : Cx) (e : Expr) : TE := fun σ H Q => ∀ pins s, Inv X pins σ H s → wpAny (model X.prog X.w) X.A (eval e X.env) (EP X pins σ Q) X.xe s
theorem PEat.pe {X : Cx} {e : Expr} : PE X e (PEat X e) := ⟨fun pins s σ H Q I h => h pins s I⟩
theorem PEat.of {X : Cx} {e : Expr} {t : TE} (h : PE X e t) {σ : L2.St} {H : Hp} {Q : VK} (q : t σ H Q) : PEat X e σ H Q := fun pins s I => h.run pins s σ H Q I q
def PTat (X : Cx) (e : Expr) : TT := fun σ H Q => ∀ pins s, Inv X pins σ H s → wpAny (model X.prog X.w) X.A (isTrue e X.env (eval e X.env)) (TP X pins σ Q) X.xe s
theorem PTat.pt {X : Cx} {e : Expr} : PT X e (PTat X e) := ⟨fun pins s σ H Q I h => h pins s I⟩
theorem PTat.of {X : Cx} {e : Expr} {t : TT} (h : PT X e t) {σ : L2.St} {H : Hp} {Q : Bool → Hp → Prop} (q : t σ H Q) : PTat X e σ H Q := fun pins s I => h.run pins s σ H Q I q

/-- the setting of a def's body (or a comprehension's block) -/
structure Sg (X : Cx) (W : WX) (Z : Ext) (CL : Calls) (k : Nat) (ow0 : List Addr) (Hb : Hp) : Prop where
  tk : Takes X W
  po : PassesOwn (model X.prog X.w) X.A X.env X.xe
  calm : X.calm = true
  nd : X.N.Nodup
  room : Room k X.A

section
variable (X : Cx) (W : WX) (Z : Ext) (CL : Calls) (ow0 : List Addr) (Hb : Hp)
def SimE (e : Expr) (w : WE) : Prop := ∀ (S : Hp) (ρ : Ev) (σ : L2.St) (H : Hp) (ow : List Addr) (P : Val → Prop) (Ex : Xn → Prop) (Q : VK),
  Rel CL Z X.K ow0 Hb S ρ σ H ow → w ρ P Ex → Gd CL Z X.K ow H P Q → Bd Z X.K ow X.mg W σ H Ex → PEat X e σ H Q
def GdT (H0 : Hp) (P : Bool → Prop) (Q : Bool → Hp → Prop) : Prop := ∀ b H', P b → SameBut (fp Z) H0 H' → RZ Z H' → Q b H'
def SimT (e : Expr) (w : WT) : Prop := ∀ (S : Hp) (ρ : Ev) (σ : L2.St) (H : Hp) (ow : List Addr) (P : Bool → Prop) (Ex : Xn → Prop) (Q : Bool → Hp → Prop),
  Rel CL Z X.K ow0 Hb S ρ σ H ow → w ρ P Ex → GdT Z H P Q → Bd Z X.K ow X.mg W σ H Ex → PTat X e σ H Q
/-- values in a row -/
inductive RVs (K : PySem.W.Frag) (ow : List Addr) (H0 H : Hp) : List V → List Val → Prop
  | nil : RVs K ow H0 H [] []
  | cons {v : V} {vs : List V} {y : Val} {ys : List Val} : RV CL Z K ow H0 H v y → RVs K ow H0 H vs ys → RVs K ow H0 H (v :: vs) (y :: ys)
def GdA (K : PySem.W.Frag) (ow : List Addr) (H0 : Hp) (P : List Val → Prop) (Q : List V → Hp → Prop) : Prop := ∀ ys vs H', P ys → SameBut (fp Z) H0 H' → RZ Z H' → RVs Z CL K ow H0 H' vs ys → Q vs H'
def PAat (es : List Expr) : TA := fun σ H Q => ∀ (pos : Pos) pins s, Inv X pins σ H s → wpAny (model X.prog X.w) X.A (spliced (backTo pos (starEach es X.env))) (AP X pins σ Q) X.xe s
def SimA (es : List Expr) (w : WA) : Prop := ∀ (S : Hp) (ρ : Ev) (σ : L2.St) (H : Hp) (ow : List Addr) (P : List Val → Prop) (Ex : Xn → Prop) (Q : List V → Hp → Prop),
  Rel CL Z X.K ow0 Hb S ρ σ H ow → w ρ P Ex → GdA Z CL X.K ow H P Q → Bd Z X.K ow X.mg W σ H Ex → PAat X es σ H Q
end
theorem PAat.pa {X : Cx} {es : List Expr} : PA X es (PAat X es) := ⟨fun pos pins s σ H Q I h => h pos pins s I⟩
theorem PAat.of {X : Cx} {es : List Expr} {t : TA} (h : PA X es t) {σ : L2.St} {H : Hp} {Q : List V → Hp → Prop} (q : t σ H Q) : PAat X es σ H Q := fun pos pins s I => h.run pos pins s σ H Q I q

section
variable {X : Cx} {W : WX} {Z : Ext} {CL : Calls} {ow0 : List Addr} {Hb : Hp}
/-! ### names, constants -/
def brw : Val → Val
  | .own xs => .bor xs
  | y => y
def wVar (i : Nat) : WE := fun ρ P _ => match ρ[i]? with
  | some (some y) => P (brw y)
  | _ => False
theorem sim_var (i : Nat) {x : Str} {pos : Pos} (hN : X.N[i]? = some x := by rfl) (hv : Vis X.env.scope x := by first | exact Or.inl rfl | exact Or.inr (Or.inl rfl) | exact Or.inr (Or.inr rfl)) (hd : (x == ("__debug__" : Str)) = false := by decide)
    (hcd : (x == ("__classdict__" : Str)) = false := by decide) : SimE X W Z CL ow0 Hb (.Name x pos) (wVar i) := by
  intro S ρ σ H ow P Ex Q r w g b
  unfold wVar at w
  split at w
  · rename_i y hy
    obtain ⟨v, h1, h2⟩ := r.val i y hy
    refine PEat.of (pe_var hN hv hd hcd) ⟨v, h1, g (brw y) v H w (.refl _ _) r.gr.ext ?_⟩
    cases y with
    | d x => exact h2
    | own xs =>
      obtain ⟨p, vs, rfl, h0, n, z, hp, ha⟩ := h2
      exact ⟨p, vs, rfl, n, z, hp, ha⟩
    | bor xs => exact h2.elim
    | bag => exact h2
    | fn f φ => exact h2
  · exact w.elim
def wC (x : D) : WE := fun _ P _ => P (.d x)
theorem sim_int {i j pos} : SimE X W Z CL ow0 Hb (.Constant (.int i) j pos) (wC (.int i)) := fun S ρ σ H ow P Ex Q r w g b => PEat.of pe_int (g.sc w r.gr.ext fun _ => .int i)
theorem sim_bl {x j pos} : SimE X W Z CL ow0 Hb (.Constant (.bool x) j pos) (wC (.bool x)) := fun S ρ σ H ow P Ex Q r w g b => PEat.of pe_bl (g.sc w r.gr.ext fun _ => .bl x)
theorem sim_non {j pos} : SimE X W Z CL ow0 Hb (.Constant .none j pos) (wC .none) := fun S ρ σ H ow P Ex Q r w g b => PEat.of pe_non (g.sc w r.gr.ext fun _ => .non)
theorem sim_str {x j pos} : SimE X W Z CL ow0 Hb (.Constant (.str x) j pos) (wC (.str x)) := fun S ρ σ H ow P Ex Q r w g b => PEat.of pe_str (g.sc w r.gr.ext fun _ => .str x)
/-- a module's constant -/
theorem sim_glob {x : Str} {v : V} {u : Value} {pos : Pos} {d : D} (hg : Gl X x) (hm : X.mg x = some u) (rv : RelV v u) (hd : ∀ H, Dt X.K H v d) (hdb : (x == ("__debug__" : Str)) = false := by decide) : SimE X W Z CL ow0 Hb (.Name x pos) (wC d) :=
  fun S ρ σ H ow P Ex Q r w g b => PEat.of (pe_glob hg hm rv hdb) (g.sc w r.gr.ext hd)

/-! ### operators -/
abbrev Op2 := Val → Val → (Val → Prop) → Prop
def rD (CL : Calls) (Z : Ext) (K : PySem.W.Frag) (op : Op2) : R2 := fun x y H Q => ∃ ow H0 a b P, Gr Z ow H ∧ RV CL Z K ow H0 H x a ∧ RV CL Z K ow H0 H y b ∧ op a b P ∧ Gd CL Z K ow H P Q
def wOp (op : Op2) (wa wb : WE) : WE := fun ρ P Ex => wa ρ (fun x => wb ρ (fun y => op x y P) Ex) Ex
/-- two expressions in a row -/
theorem two {ea eb : Expr} {wa wb : WE} (ha : SimE X W Z CL ow0 Hb ea wa) (hb : SimE X W Z CL ow0 Hb eb wb) {S : Hp} {ρ : Ev} {σ : L2.St} {H : Hp} {ow : List Addr} {Ex : Xn → Prop} {R : Val → Val → Prop} {Q : V → V → Hp → Prop}
    (r : Rel CL Z X.K ow0 Hb S ρ σ H ow) (b : Bd Z X.K ow X.mg W σ H Ex) (w : wa ρ (fun x => wb ρ (fun y => R x y) Ex) Ex)
    (hQ : ∀ x y v u H', R x y → SameBut (fp Z) H H' → RZ Z H' → RV CL Z X.K ow H H' v x → RV CL Z X.K ow H H' u y → Q v u H') :
    PEat X ea σ H fun v H1 => PEat X eb σ H1 fun u H2 => Q v u H2 := by
  refine ha S ρ σ H ow _ Ex _ r w (fun x v H1 wb1 e1 z1 h1 => ?_) b
  have r1 := r.step e1 z1
  refine hb S ρ σ H1 ow _ Ex _ r1 wb1 (fun y u H2 q e2 z2 h2 => ?_) (b.step e1)
  exact hQ x y v u H2 q (e1.trans e2) z2 (h1.stay e2 r.gr.fpo) (h2.back e1 r.gr.fpo)
theorem sim_op {ea eb : Expr} {wa wb : WE} {o : Operator} {op : Op2} {pos : Pos} (ho : OpR X (binaryOp o) (rD CL Z X.K op)) (ha : SimE X W Z CL ow0 Hb ea wa) (hb : SimE X W Z CL ow0 Hb eb wb) : SimE X W Z CL ow0 Hb (.BinOp ea o eb pos) (wOp op wa wb) := by
  intro S ρ σ H ow P Ex Q r w g b
  refine PEat.of (pe_op ho PEat.pe PEat.pe) ?_
  exact two ha hb r b w fun x y v u H' q e z h1 h2 => ⟨ow, H, x, y, P, r.gr.step e z, h1, h2, q, g.step e r.gr.fpo⟩
theorem sim_cmp {ea eb : Expr} {wa wb : WE} {o : CmpOp} {op : Op2} {pos : Pos} (ho : OpR X (compareOp o) (rD CL Z X.K op)) (ha : SimE X W Z CL ow0 Hb ea wa) (hb : SimE X W Z CL ow0 Hb eb wb) (hm : behindInMarks o eb = false := by first | exact nobehind _ (by decide) (by decide) | rfl) :
    SimE X W Z CL ow0 Hb (.Compare ea [o] [eb] pos) (wOp op wa wb) := by
  intro S ρ σ H ow P Ex Q r w g b
  refine PEat.of (pe_cmpR ho PEat.pe PEat.pe hm) ?_
  exact two ha hb r b w fun x y v u H' q e z h1 h2 => ⟨ow, H, x, y, P, r.gr.step e z, h1, h2, q, g.step e r.gr.fpo⟩

/-! ### tests -/
def wTv (w : WE) : WT := fun ρ P Ex => w ρ (fun y => match y with
  | .d (.bool b) => P b
  | _ => False) Ex
/-- an expression whose value is a truth, as a test -/
theorem sim_tv {e : Expr} {we : WE} (h : SimE X W Z CL ow0 Hb e we) (he : ∀ whole, isTrue e X.env whole = (do let v ← whole; standAt e.pos; holding [v] (truthy v)) := by intro _; rfl) : SimT X W Z CL ow0 Hb e (wTv we) := by
  intro S ρ σ H ow P Ex Q r w g b
  refine PTat.of (pt_val PEat.pe he) ?_
  refine h S ρ σ H ow _ Ex _ r w (fun y v H' p e z q => ?_) b
  cases y with
  | d x =>
    cases x with
    | bool c =>
      cases (q : Dt X.K (hid ow H') v (.bool c))
      exact ⟨c, rfl, g c H' p e z⟩
    | _ => exact (p : False).elim
  | _ => exact (p : False).elim
theorem sim_tcmp {ea eb : Expr} {wa wb : WE} {o : CmpOp} {op : Op2} {pos : Pos} (ho : OpR X (compareOp o) (rD CL Z X.K op)) (ha : SimE X W Z CL ow0 Hb ea wa) (hb : SimE X W Z CL ow0 Hb eb wb) (hm : behindInMarks o eb = false := by first | exact nobehind _ (by decide) (by decide) | rfl) :
    SimT X W Z CL ow0 Hb (.Compare ea [o] [eb] pos) (wTv (wOp op wa wb)) := by
  intro S ρ σ H ow P Ex Q r w g b
  refine PTat.of (pt_cmpR ho PEat.pe PEat.pe hm) ?_
  refine two ha hb r b w fun x y v u H' q e z h1 h2 => ⟨ow, H, x, y, _, r.gr.step e z, h1, h2, q, fun y v H'' p e' z' q' => ?_⟩
  cases y with
  | d x =>
    cases x with
    | bool c =>
      cases (q' : Dt X.K (hid ow H'') v (.bool c))
      exact ⟨c, rfl, g c H'' p (e.trans e') z'⟩
    | _ => exact (p : False).elim
  | _ => exact (p : False).elim
def wTnot (w : WT) : WT := fun ρ P Ex => w ρ (fun b => P (!b)) Ex
theorem sim_tnot {e : Expr} {we : WT} {pos : Pos} (h : SimT X W Z CL ow0 Hb e we) : SimT X W Z CL ow0 Hb (.UnaryOp .Not e pos) (wTnot we) := by
  intro S ρ σ H ow P Ex Q r w g b
  exact PTat.of (pt_not PTat.pt) (h S ρ σ H ow _ Ex _ r w (fun c H' p e z => g (!c) H' p e z) b)
def wTand (wa wb : WT) : WT := fun ρ P Ex => wa ρ (fun b => if b = true then wb ρ P Ex else P false) Ex
def wTor (wa wb : WT) : WT := fun ρ P Ex => wa ρ (fun b => if b = true then P true else wb ρ P Ex) Ex
/-- a test whatever its whole is -/
def PWat (X : Cx) (e : Expr) : TT := fun σ H Q => ∀ whole pins s, Inv X pins σ H s → wpAny (model X.prog X.w) X.A (isTrue e X.env whole) (TP X pins σ Q) X.xe s
theorem PWat.pw {e : Expr} : PW X e (PWat X e) := ⟨fun wh pins s σ H Q I h => h wh pins s I⟩
theorem PWat.of {e : Expr} {t : TT} (h : PW X e t) {σ : L2.St} {H : Hp} {Q : Bool → Hp → Prop} (q : t σ H Q) : PWat X e σ H Q := fun wh pins s I => h.run wh pins s σ H Q I q
def SimW (X : Cx) (W : WX) (Z : Ext) (CL : Calls) (ow0 : List Addr) (Hb : Hp) (e : Expr) (w : WT) : Prop := ∀ (S : Hp) (ρ : Ev) (σ : L2.St) (H : Hp) (ow : List Addr) (P : Bool → Prop) (Ex : Xn → Prop) (Q : Bool → Hp → Prop),
  Rel CL Z X.K ow0 Hb S ρ σ H ow → w ρ P Ex → GdT Z H P Q → Bd Z X.K ow X.mg W σ H Ex → PWat X e σ H Q
theorem SimW.t {e : Expr} {we : WT} (h : SimW X W Z CL ow0 Hb e we) : SimT X W Z CL ow0 Hb e we := fun S ρ σ H ow P Ex Q r w g b => PTat.of (PW.pt PWat.pw) (h S ρ σ H ow P Ex Q r w g b)
theorem sim_and1 {e : Expr} {we : WT} {pos : Pos} (h : SimT X W Z CL ow0 Hb e we) : SimW X W Z CL ow0 Hb (.BoolOp .And [e] pos) we := fun S ρ σ H ow P Ex Q r w g b => PWat.of (pw_and1 PTat.pt) (h S ρ σ H ow P Ex Q r w g b)
theorem sim_or1 {e : Expr} {we : WT} {pos : Pos} (h : SimT X W Z CL ow0 Hb e we) : SimW X W Z CL ow0 Hb (.BoolOp .Or [e] pos) we := fun S ρ σ H ow P Ex Q r w g b => PWat.of (pw_or1 PTat.pt) (h S ρ σ H ow P Ex Q r w g b)
theorem sim_and {a b : Expr} {rest : List Expr} {wa wb : WT} {pos : Pos} (ha : SimT X W Z CL ow0 Hb a wa) (hb : SimW X W Z CL ow0 Hb (.BoolOp .And (b :: rest) pos) wb) : SimW X W Z CL ow0 Hb (.BoolOp .And (a :: b :: rest) pos) (wTand wa wb) := by
  intro S ρ σ H ow P Ex Q r w g bd
  refine PWat.of (pw_and PTat.pt PWat.pw) (ha S ρ σ H ow _ Ex _ r w (fun c H' p e z => ?_) bd)
  cases c with
  | true => exact hb S ρ σ H' ow P Ex Q (r.step e z) p (fun c H'' p' e' z' => g c H'' p' (e.trans e') z') (bd.step e)
  | false => exact g false H' p e z
theorem sim_or {a b : Expr} {rest : List Expr} {wa wb : WT} {pos : Pos} (ha : SimT X W Z CL ow0 Hb a wa) (hb : SimW X W Z CL ow0 Hb (.BoolOp .Or (b :: rest) pos) wb) : SimW X W Z CL ow0 Hb (.BoolOp .Or (a :: b :: rest) pos) (wTor wa wb) := by
  intro S ρ σ H ow P Ex Q r w g bd
  refine PWat.of (pw_or PTat.pt PWat.pw) (ha S ρ σ H ow _ Ex _ r w (fun c H' p e z => ?_) bd)
  cases c with
  | false => exact hb S ρ σ H' ow P Ex Q (r.step e z) p (fun c H'' p' e' z' => g c H'' p' (e.trans e') z') (bd.step e)
  | true => exact g true H' p e z
/-! .. as values -/
def wAnd (wa wb : WE) : WE := fun ρ P Ex => wa ρ (fun y => match y with
  | .d (.bool b) => if b = true then wb ρ P Ex else P (.d (.bool false))
  | _ => False) Ex
def wOr (wa wb : WE) : WE := fun ρ P Ex => wa ρ (fun y => match y with
  | .d (.bool b) => if b = true then P (.d (.bool true)) else wb ρ P Ex
  | _ => False) Ex
def wNot (w : WE) : WE := fun ρ P Ex => w ρ (fun y => match y with
  | .d (.bool b) => P (.d (.bool (!b)))
  | _ => False) Ex
theorem sim_vone {e : Expr} {we : WE} {op : BoolOp} {pos : Pos} (h : SimE X W Z CL ow0 Hb e we) : SimE X W Z CL ow0 Hb (.BoolOp op [e] pos) we := fun S ρ σ H ow P Ex Q r w g b => PEat.of (pe_one PEat.pe) (h S ρ σ H ow P Ex Q r w g b)
theorem sim_vand {a b : Expr} {rest : List Expr} {wa wb : WE} {pos : Pos} (ha : SimE X W Z CL ow0 Hb a wa) (hb : SimE X W Z CL ow0 Hb (.BoolOp .And (b :: rest) pos) wb) : SimE X W Z CL ow0 Hb (.BoolOp .And (a :: b :: rest) pos) (wAnd wa wb) := by
  intro S ρ σ H ow P Ex Q r w g bd
  refine PEat.of (pe_and PEat.pe PEat.pe) (ha S ρ σ H ow _ Ex _ r w (fun y v H' p e z h => ?_) bd)
  cases y with
  | d x =>
    cases x with
    | bool c =>
      cases (h : Dt X.K (hid ow H') v (.bool c))
      refine ⟨c, rfl, ?_⟩
      cases c with
      | true => exact hb S ρ σ H' ow P Ex Q (r.step e z) p (g.step e r.gr.fpo) (bd.step e)
      | false => exact (g.step e r.gr.fpo).sc p z fun _ => .bl false
    | _ => exact (p : False).elim
  | _ => exact (p : False).elim
theorem sim_vor {a b : Expr} {rest : List Expr} {wa wb : WE} {pos : Pos} (ha : SimE X W Z CL ow0 Hb a wa) (hb : SimE X W Z CL ow0 Hb (.BoolOp .Or (b :: rest) pos) wb) : SimE X W Z CL ow0 Hb (.BoolOp .Or (a :: b :: rest) pos) (wOr wa wb) := by
  intro S ρ σ H ow P Ex Q r w g bd
  refine PEat.of (pe_or PEat.pe PEat.pe) (ha S ρ σ H ow _ Ex _ r w (fun y v H' p e z h => ?_) bd)
  cases y with
  | d x =>
    cases x with
    | bool c =>
      cases (h : Dt X.K (hid ow H') v (.bool c))
      refine ⟨c, rfl, ?_⟩
      cases c with
      | false => exact hb S ρ σ H' ow P Ex Q (r.step e z) p (g.step e r.gr.fpo) (bd.step e)
      | true => exact (g.step e r.gr.fpo).sc p z fun _ => .bl true
    | _ => exact (p : False).elim
  | _ => exact (p : False).elim
theorem sim_vnot {e : Expr} {we : WE} {pos : Pos} (h : SimE X W Z CL ow0 Hb e we) : SimE X W Z CL ow0 Hb (.UnaryOp .Not e pos) (wNot we) := by
  intro S ρ σ H ow P Ex Q r w g bd
  refine PEat.of (pe_not PEat.pe) (h S ρ σ H ow _ Ex _ r w (fun y v H' p e z h => ?_) bd)
  cases y with
  | d x =>
    cases x with
    | bool c =>
      cases (h : Dt X.K (hid ow H') v (.bool c))
      exact ⟨c, rfl, (g.step e r.gr.fpo).sc p z fun _ => .bl _⟩
    | _ => exact (p : False).elim
  | _ => exact (p : False).elim
/-- a if t else b -/
def wIf (wt : WT) (wa wb : WE) : WE := fun ρ P Ex => wt ρ (fun b => if b = true then wa ρ P Ex else wb ρ P Ex) Ex
theorem sim_ifx {c a b : Expr} {wt : WT} {wa wb : WE} {pos : Pos} (hc : SimT X W Z CL ow0 Hb c wt) (ha : SimE X W Z CL ow0 Hb a wa) (hb : SimE X W Z CL ow0 Hb b wb) : SimE X W Z CL ow0 Hb (.IfExp c a b pos) (wIf wt wa wb) := by
  intro S ρ σ H ow P Ex Q r w g bd
  refine PEat.of (pe_ifExp PTat.pt PEat.pe PEat.pe) (hc S ρ σ H ow _ Ex _ r w (fun c H' p e z => ?_) bd)
  cases c with
  | true => exact ha S ρ σ H' ow P Ex Q (r.step e z) p (g.step e r.gr.fpo) (bd.step e)
  | false => exact hb S ρ σ H' ow P Ex Q (r.step e z) p (g.step e r.gr.fpo) (bd.step e)
end
end Pd

/-! Pd3: operators and comparisons over data. -/
namespace Pd
open PySem PySem.Spec PyProof.Rows L2

/-! ### no dict lies within -/
mutual
theorem Dt.plain {K : PySem.W.Frag} {H : Hp} : ∀ {v : V} {d : D}, Dt K H v d → d.plain = true
  | _, _, .non => rfl
  | _, _, .bl b => rfl
  | _, _, .int i => rfl
  | _, _, .str x => rfl
  | _, _, .lst h t => by show PyData.plainAll _ = true; exact DtAll.plain t
  | _, _, .tup h t => by show PyData.plainAll _ = true; exact DtAll.plain t
theorem DtAll.plain {K : PySem.W.Frag} {H : Hp} : ∀ {vs : List V} {ds : List D}, DtAll K H vs ds → PyData.plainAll ds = true
  | _, _, .nil => rfl
  | _, _, .cons h t => by
    show (_ && _) = true
    rw [Dt.plain h, DtAll.plain t]
    rfl
end

section
variable {X : Cx} {pins : List (Addr × Obj)} {σ : L2.St} {s : Shared} {CL : Calls} {Z : Ext} {K : PySem.W.Frag} {ow : List Addr} {H0 H : Hp} {v u : V} {x y : Val}
theorem RV.plain (h : RV CL Z K ow H0 H v y) {d : D} (e : y.rd = some d) : d.plain = true := (h.rd e).plain
theorem RV.reads (I : Inv X pins σ H s) (h : RV CL Z X.K ow H0 H v y) {d : D} (e : y.rd = some d) {z : Value} (r : RelV v z) : ∃ as, Reads s.heap z d as := Dp.reads I d v z (h.rd e).dp r
/-- a list, its items hidden from the owned ones -/
theorem RV.list (h : RV CL Z K ow H0 H v y) {xs : List D} (e : y.rd = some (.list xs)) : ∃ p vs, v = .ref p ∧ H p = some (.lst vs) ∧ DtAll K (hid ow H) vs xs := by
  cases y with
  | d x =>
    cases e
    cases (h : Dt K (hid ow H) v (.list xs)) with
    | lst h1 h2 => exact ⟨_, _, rfl, hid_le _ _ h1, h2⟩
  | own zs =>
    cases e
    obtain ⟨p, vs, rfl, _, _, hp, ha⟩ := h
    exact ⟨p, vs, rfl, hp, DtAll.mono hid_tail ha⟩
  | bor zs =>
    cases e
    obtain ⟨p, vs, rfl, _, _, hp, ha⟩ := h
    exact ⟨p, vs, rfl, hp, ha⟩
  | bag => cases e
  | fn f φ => cases e
theorem RV.tuple (h : RV CL Z K ow H0 H v y) {xs : List D} (e : y.rd = some (.tuple xs)) : ∃ p vs, v = .ref p ∧ SqT K (hid ow H) p vs ∧ DtAll K (hid ow H) vs xs := by
  cases y with
  | d x =>
    cases e
    cases (h : Dt K (hid ow H) v (.tuple xs)) with
    | tup h1 h2 => exact ⟨_, _, rfl, h1, h2⟩
  | own zs => cases e
  | bor zs => cases e
  | bag => cases e
  | fn f φ => cases e
theorem RV.int (h : RV CL Z K ow H0 H v y) {i : Int} (e : y.rd = some (.int i)) : v = .int i := by
  cases h.rd e
  rfl
theorem RV.str (h : RV CL Z K ow H0 H v y) {i : Str} (e : y.rd = some (.str i)) : v = .str i := by
  cases h.rd e
  rfl
theorem RV.bool (h : RV CL Z K ow H0 H v y) {i : Bool} (e : y.rd = some (.bool i)) : v = .bl i := by
  cases h.rd e
  rfl
end

/-! ### + - * -/
def opAdd : Op2 := fun a b P => match a.rd, b.rd with
  | some (.int i), some (.int j) => P (.d (.int (i + j)))
  | some (.str i), some (.str j) => i.length + j.length ≤ sizeLine ∧ P (.d (.str (i ++ j)))
  | some (.list xs), some (.list ys) => xs.length + ys.length ≤ sizeLine ∧ P (.own (xs ++ ys))
  | some (.tuple xs), some (.tuple ys) => xs.length + ys.length ≤ sizeLine ∧ P (.d (.tuple (xs ++ ys)))
  | _, _ => False
def opSub : Op2 := fun a b P => match a.rd, b.rd with
  | some (.int i), some (.int j) => P (.d (.int (i - j)))
  | _, _ => False
/-- the left factor, or the right one, below 2^64; a list or a text so many times -/
def opMul : Op2 := fun a b P => match a.rd, b.rd with
  | some (.int i), some (.int j) => CMul i j ∧ P (.d (.int (i * j)))
  | some (.list xs), some (.int k) => (-(2 ^ 63) ≤ k ∧ k < 2 ^ 63 ∧ xs.length * k.toNat ≤ sizeLine) ∧ P (.own (List.replicate k.toNat xs).flatten)
  | _, _ => False
def opMod : Op2 := fun a b P => match a.rd, b.rd with
  | some (.int i), some (.int j) => 0 < j ∧ P (.d (.int (i % j)))
  | _, _ => False
def opFdiv : Op2 := fun a b P => match a.rd, b.rd with
  | some (.int i), some (.int j) => CDiv i j ∧ P (.d (.int (i / j)))
  | _, _ => False
theorem DtAll.rep {K : PySem.W.Frag} {H : Hp} {vs : List V} {xs : List D} (h : DtAll K H vs xs) : ∀ n : Nat, DtAll K H (List.replicate n vs).flatten (List.replicate n xs).flatten
  | 0 => .nil
  | n + 1 => by
    simp only [List.replicate_succ, List.flatten_cons]
    exact h.append (DtAll.rep h n)
section
variable {X : Cx} {CL : Calls} {Z : Ext}
theorem or_add : OpR X (binaryOp .Add) (rD CL Z X.K opAdd) := by
  intro pins s σ H x y v u Q I rx ry h
  obtain ⟨ow, H0, a, b, P, gr, ha, hb, w, g⟩ := h
  unfold opAdd at w
  split at w
  · rename_i i j e1 e2
    rw [ha.int e1] at rx
    rw [hb.int e2] at ry
    exact op_add pins s σ H _ _ v u Q I rx ry ⟨i, j, rfl, rfl, g.sc w gr.ext fun _ => .int _⟩
  · rename_i i j e1 e2
    rw [ha.str e1] at rx
    rw [hb.str e2] at ry
    exact op_add_str pins s σ H _ _ v u Q I rx ry ⟨i, j, rfl, rfl, w.1, g.sc w.2 gr.ext fun _ => .str _⟩
  · rename_i xs ys e1 e2
    obtain ⟨p, vs, rfl, h1, a1⟩ := ha.list e1
    obtain ⟨q, ws, rfl, h2, a2⟩ := hb.list e2
    refine op_cat pins s σ H _ _ v u Q I rx ry ⟨p, q, vs, ws, rfl, rfl, h1, h2, by rw [a1.length, a2.length]; exact w.1, fun l hl => ?_⟩
    exact g.lst w.2 gr hl (a1.append a2)
  · rename_i xs ys e1 e2
    obtain ⟨p, vs, rfl, h1, a1⟩ := ha.tuple e1
    obtain ⟨q, ws, rfl, h2, a2⟩ := hb.tuple e2
    refine op_catA pins s σ H _ _ v u Q I rx ry ⟨p, q, vs, ws, rfl, rfl, hid_le.sqt h1, hid_le.sqt h2, by rw [a1.length, a2.length]; exact w.1, fun z => ?_, fun z1 z2 => ?_, fun _ _ l hl => ?_⟩
    · subst z
      cases a1
      exact g (.d (.tuple ys)) _ H w.2 (.refl _ _) gr.ext (.tup h2 a2)
    · subst z2
      cases a2
      exact g (.d (.tuple xs)) _ H (by have z := w.2; rw [List.append_nil] at z; exact z) (.refl _ _) gr.ext (.tup h1 a1)
    · exact g.tup w.2 gr hl (a1.append a2)
  · exact w.elim
theorem or_sub : OpR X (binaryOp .Sub) (rD CL Z X.K opSub) := by
  intro pins s σ H x y v u Q I rx ry h
  obtain ⟨ow, H0, a, b, P, gr, ha, hb, w, g⟩ := h
  unfold opSub at w
  split at w
  · rename_i i j e1 e2
    rw [ha.int e1] at rx
    rw [hb.int e2] at ry
    exact op_sub pins s σ H _ _ v u Q I rx ry ⟨i, j, rfl, rfl, g.sc w gr.ext fun _ => .int _⟩
  · exact w.elim
theorem or_mul : OpR X (binaryOp .Mult) (rD CL Z X.K opMul) := by
  intro pins s σ H x y v u Q I rx ry h
  obtain ⟨ow, H0, a, b, P, gr, ha, hb, w, g⟩ := h
  unfold opMul at w
  split at w
  · rename_i i j e1 e2
    rw [ha.int e1] at rx
    rw [hb.int e2] at ry
    exact op_mul pins s σ H _ _ v u Q I rx ry ⟨i, j, rfl, rfl, w.1, g.sc w.2 gr.ext fun _ => .int _⟩
  · rename_i xs k e1 e2
    obtain ⟨p, vs, rfl, h1, a1⟩ := ha.list e1
    rw [hb.int e2] at ry
    refine op_rep pins s σ H _ _ v u Q I rx ry ⟨p, k, vs, rfl, rfl, h1, w.1.1, w.1.2.1, by rw [a1.length]; exact w.1.2.2, fun l hl => ?_⟩
    exact g.lst w.2 gr hl (a1.rep _)
  · exact w.elim
theorem or_mod : OpR X (binaryOp .Mod) (rD CL Z X.K opMod) := by
  intro pins s σ H x y v u Q I rx ry h
  obtain ⟨ow, H0, a, b, P, gr, ha, hb, w, g⟩ := h
  unfold opMod at w
  split at w
  · rename_i i j e1 e2
    rw [ha.int e1] at rx
    rw [hb.int e2] at ry
    exact op_mod pins s σ H _ _ v u Q I rx ry ⟨i, j, rfl, rfl, w.1, g.sc w.2 gr.ext fun _ => .int _⟩
  · exact w.elim
theorem or_fdiv : OpR X (binaryOp .FloorDiv) (rD CL Z X.K opFdiv) := by
  intro pins s σ H x y v u Q I rx ry h
  obtain ⟨ow, H0, a, b, P, gr, ha, hb, w, g⟩ := h
  unfold opFdiv at w
  split at w
  · rename_i i j e1 e2
    rw [ha.int e1] at rx
    rw [hb.int e2] at ry
    exact op_fdiv pins s σ H _ _ v u Q I rx ry ⟨i, j, rfl, rfl, w.1, g.sc w.2 gr.ext fun _ => .int _⟩
  · exact w.elim
/-- -a -/
def wNeg (w : WE) : WE := fun ρ P Ex => w ρ (fun y => match y with
  | .d (.int i) => P (.d (.int (-i)))
  | _ => False) Ex
theorem sim_neg {W : WX} {ow0 : List Addr} {Hb : Hp} {e : Expr} {we : WE} {pos : Pos} (h : SimE X W Z CL ow0 Hb e we) : SimE X W Z CL ow0 Hb (.UnaryOp .USub e pos) (wNeg we) := by
  intro S ρ σ H ow P Ex Q r w g bd
  refine PEat.of (pe_un un_neg PEat.pe) (h S ρ σ H ow _ Ex _ r w (fun y v H' p e z h => ?_) bd)
  cases y with
  | d x =>
    cases x with
    | int c =>
      cases (h : Dt X.K (hid ow H') v (.int c))
      exact ⟨c, rfl, (g.step e r.gr.fpo).sc p z fun _ => .int _⟩
    | _ => exact (p : False).elim
  | _ => exact (p : False).elim
end

/-! ### comparisons -/
def opCmp (f : Int → Int → Bool) (g : List Nat → List Nat → Bool) : Op2 := fun a b P => match a.rd, b.rd with
  | some (.int i), some (.int j) => P (.d (.bool (f i j)))
  | some (.str i), some (.str j) => P (.d (.bool (g i.cps.toList j.cps.toList)))
  | _, _ => False
abbrev opLt : Op2 := opCmp (fun i j => decide (i < j)) (fun i j => decide (i < j))
abbrev opLe : Op2 := opCmp (fun i j => decide (i ≤ j)) (fun i j => !decide (j < i))
abbrev opGt : Op2 := opCmp (fun i j => decide (j < i)) (fun i j => decide (j < i))
abbrev opGe : Op2 := opCmp (fun i j => decide (j ≤ i)) (fun i j => !decide (i < j))
section
variable {X : Cx} {CL : Calls} {Z : Ext}
theorem or_cmp {o : CmpOp} {f : Int → Int → Bool} {g : List Nat → List Nat → Bool} (hi : OpR X (compareOp o) (rI0 fun i j => .bl (f i j)))
    (hs : OpR X (compareOp o) (fun x y H Q => ∃ i j, x = .str i ∧ y = .str j ∧ Q (.bl (g i.cps.toList j.cps.toList)) H)) : OpR X (compareOp o) (rD CL Z X.K (opCmp f g)) := by
  intro pins s σ H x y v u Q I rx ry h
  obtain ⟨ow, H0, a, b, P, gr, ha, hb, w, gd⟩ := h
  unfold opCmp at w
  split at w
  · rename_i i j e1 e2
    rw [ha.int e1] at rx
    rw [hb.int e2] at ry
    exact hi pins s σ H _ _ v u Q I rx ry ⟨i, j, rfl, rfl, gd.sc w gr.ext fun _ => .bl _⟩
  · rename_i i j e1 e2
    rw [ha.str e1] at rx
    rw [hb.str e2] at ry
    exact hs pins s σ H _ _ v u Q I rx ry ⟨i, j, rfl, rfl, gd.sc w gr.ext fun _ => .bl _⟩
  · exact w.elim
theorem or_lt : OpR X (compareOp .Lt) (rD CL Z X.K opLt) := or_cmp op_lt op_lt_str
theorem or_le : OpR X (compareOp .LtE) (rD CL Z X.K opLe) := or_cmp op_le op_le_str
theorem or_gt : OpR X (compareOp .Gt) (rD CL Z X.K opGt) := or_cmp op_gt op_gt_str
theorem or_ge : OpR X (compareOp .GtE) (rD CL Z X.K opGe) := or_cmp op_ge op_ge_str
/-- ==, != of any data -/
def opEq : Op2 := fun a b P => match a.rd, b.rd with
  | some x, some y => min x.depth y.depth ≤ 100 ∧ P (.d (.bool (PyData.eqv x y)))
  | _, _ => False
def opNe : Op2 := fun a b P => match a.rd, b.rd with
  | some x, some y => min x.depth y.depth ≤ 100 ∧ P (.d (.bool (!PyData.eqv x y)))
  | _, _ => False
theorem or_eq (hu : X.A.units + 200 < cLine) : OpR X (compareOp .Eq) (rD CL Z X.K opEq) := by
  intro pins s σ H x y v u Q I rx ry h
  obtain ⟨ow, H0, a, b, P, gr, ha, hb, w, gd⟩ := h
  unfold opEq at w
  split at w
  · rename_i i j e1 e2
    obtain ⟨as, r1⟩ := ha.reads I e1 rx
    obtain ⟨bs, r2⟩ := hb.reads I e2 ry
    exact SeqAt.eq_plain r1 r2 (ha.plain e1) (hb.plain e2) (by omega) ⟨.bl _, H, I, rfl, gd.sc w.2 gr.ext fun _ => .bl _⟩
  · exact w.elim
theorem or_ne (hu : X.A.units + 200 < cLine) : OpR X (compareOp .NotEq) (rD CL Z X.K opNe) := by
  intro pins s σ H x y v u Q I rx ry h
  obtain ⟨ow, H0, a, b, P, gr, ha, hb, w, gd⟩ := h
  unfold opNe at w
  split at w
  · rename_i i j e1 e2
    obtain ⟨as, r1⟩ := ha.reads I e1 rx
    obtain ⟨bs, r2⟩ := hb.reads I e2 ry
    exact SeqAt.ne_plain r1 r2 (ha.plain e1) (hb.plain e2) (by omega) ⟨.bl _, H, I, rfl, gd.sc w.2 gr.ext fun _ => .bl _⟩
  · exact w.elim
/-- in, not in: a list, a tuple; a text in a text -/
def opInB (neg : Bool) : Op2 := fun a b P => match a.rd, b.rd with
  | some x, some (.list ys) => min (PyData.depthAll ys) x.depth ≤ 100 ∧ P (.d (.bool (neg ^^ ys.any fun y => PyData.eqv y x)))
  | some x, some (.tuple ys) => min (PyData.depthAll ys) x.depth ≤ 100 ∧ P (.d (.bool (neg ^^ ys.any fun y => PyData.eqv y x)))
  | some (.str i), some (.str j) => P (.d (.bool (neg ^^ !(Builtin.Str.occurrences j i 0 j.length 1).isEmpty)))
  | _, _ => False
abbrev opIn : Op2 := opInB false
abbrev opNin : Op2 := opInB true
theorem or_in (hu : X.A.units + 200 < cLine) : OpR X (compareOp .In) (rD CL Z X.K opIn) := by
  intro pins s σ H x y v u Q I rx ry h
  obtain ⟨ow, H0, a, b, P, gr, ha, hb, w, gd⟩ := h
  unfold opIn opInB at w
  split at w
  · rename_i i j e1 e2
    obtain ⟨as, r1⟩ := ha.reads I e1 rx
    obtain ⟨bs, r2⟩ := hb.reads I e2 ry
    exact SeqAt.in_list_data r2 r1 (hb.plain e2) (ha.plain e1) (by omega) ⟨.bl _, H, I, rfl, gd.sc (by have z := w.2; rw [Bool.false_xor] at z; exact z) gr.ext fun _ => .bl _⟩
  · rename_i i j e1 e2
    obtain ⟨as, r1⟩ := ha.reads I e1 rx
    obtain ⟨bs, r2⟩ := hb.reads I e2 ry
    exact SeqAt.in_tuple_data r2 r1 (hb.plain e2) (ha.plain e1) (by omega) ⟨.bl _, H, I, rfl, gd.sc (by have z := w.2; rw [Bool.false_xor] at z; exact z) gr.ext fun _ => .bl _⟩
  · rename_i i j e1 e2
    rw [ha.str e1] at rx
    rw [hb.str e2] at ry
    exact op_in_str pins s σ H _ _ v u Q I rx ry ⟨i, j, rfl, rfl, gd.sc (by have z := w; rw [Bool.false_xor] at z; exact z) gr.ext fun _ => .bl _⟩
  · exact w.elim
theorem or_nin (hu : X.A.units + 200 < cLine) : OpR X (compareOp .NotIn) (rD CL Z X.K opNin) := by
  intro pins s σ H x y v u Q I rx ry h
  obtain ⟨ow, H0, a, b, P, gr, ha, hb, w, gd⟩ := h
  unfold opNin opInB at w
  split at w
  · rename_i i j e1 e2
    obtain ⟨as, r1⟩ := ha.reads I e1 rx
    obtain ⟨bs, r2⟩ := hb.reads I e2 ry
    exact SeqAt.notIn_list_data r2 r1 (hb.plain e2) (ha.plain e1) (by omega) ⟨.bl _, H, I, rfl, gd.sc (by have z := w.2; rw [Bool.true_xor] at z; exact z) gr.ext fun _ => .bl _⟩
  · rename_i i j e1 e2
    obtain ⟨as, r1⟩ := ha.reads I e1 rx
    obtain ⟨bs, r2⟩ := hb.reads I e2 ry
    exact SeqAt.notIn_tuple_data r2 r1 (hb.plain e2) (ha.plain e1) (by omega) ⟨.bl _, H, I, rfl, gd.sc (by have z := w.2; rw [Bool.true_xor] at z; exact z) gr.ext fun _ => .bl _⟩
  · rename_i i j e1 e2
    rw [ha.str e1] at rx
    rw [hb.str e2] at ry
    exact op_notin_str pins s σ H _ _ v u Q I rx ry ⟨i, j, rfl, rfl, gd.sc (by have z := w; rw [Bool.true_xor] at z; exact z) gr.ext fun _ => .bl _⟩
  · exact w.elim
/-- is, is not, of truths -/
def opIsB (neg : Bool) : Op2 := fun a b P => match a.rd, b.rd with
  | some (.bool i), some (.bool j) => P (.d (.bool (neg ^^ decide (i = j))))
  | _, _ => False
theorem or_isB : OpR X (compareOp .Is) (rD CL Z X.K (opIsB false)) := by
  intro pins s σ H x y v u Q I rx ry h
  obtain ⟨ow, H0, a, b, P, gr, ha, hb, w, gd⟩ := h
  unfold opIsB at w
  split at w
  · rename_i i j e1 e2
    rw [ha.bool e1] at rx
    rw [hb.bool e2] at ry
    exact op_isBl pins s σ H _ _ v u Q I rx ry ⟨i, j, rfl, rfl, gd.sc (by have z := w; rw [Bool.false_xor] at z; exact z) gr.ext fun _ => .bl _⟩
  · exact w.elim
theorem or_isnotB : OpR X (compareOp .IsNot) (rD CL Z X.K (opIsB true)) := by
  intro pins s σ H x y v u Q I rx ry h
  obtain ⟨ow, H0, a, b, P, gr, ha, hb, w, gd⟩ := h
  unfold opIsB at w
  split at w
  · rename_i i j e1 e2
    rw [ha.bool e1] at rx
    rw [hb.bool e2] at ry
    exact op_notBl pins s σ H _ _ v u Q I rx ry ⟨i, j, rfl, rfl, gd.sc (by have z := w; rw [Bool.true_xor] at z; exact z) gr.ext fun _ => .bl _⟩
  · exact w.elim
/-- is None -/
def isNon : Val → Bool
  | .d .none => true
  | _ => false
theorem RV.isNon {K : PySem.W.Frag} {ow : List Addr} {H0 H : Hp} {v : V} {y : Val} (h : RV CL Z K ow H0 H v y) : decide (v = .non) = isNon y := by
  cases y with
  | d x =>
    have h : Dt K (hid ow H) v x := h
    cases h <;> rfl
  | own xs => obtain ⟨p, vs, rfl, _⟩ := h; rfl
  | bor xs => obtain ⟨p, vs, rfl, _⟩ := h; rfl
  | bag => obtain ⟨b, c, _, rfl⟩ := h; rfl
  | fn f φ => obtain ⟨rfl, _⟩ := h; rfl
def wIsN (neg : Bool) (w : WE) : WE := fun ρ P Ex => w ρ (fun y => P (.d (.bool (neg ^^ isNon y)))) Ex
variable {W : WX} {ow0 : List Addr} {Hb : Hp} {e : Expr} {we : WE} {pos : Pos}
theorem sim_isN {j p2} (h : SimE X W Z CL ow0 Hb e we) : SimE X W Z CL ow0 Hb (.Compare e [.Is] [.Constant .none j p2] pos) (wIsN false we) := by
  intro S ρ σ H ow P Ex Q r w g bd
  refine PEat.of (pe_cmp (pc_isN PEat.pe) rfl) (h S ρ σ H ow _ Ex _ r w (fun y v H' p e z h => ?_) bd)
  rw [h.isNon]
  rw [Bool.false_xor] at p
  exact (g.step e r.gr.fpo).sc p z fun _ => .bl _
theorem sim_notN {j p2} (h : SimE X W Z CL ow0 Hb e we) : SimE X W Z CL ow0 Hb (.Compare e [.IsNot] [.Constant .none j p2] pos) (wIsN true we) := by
  intro S ρ σ H ow P Ex Q r w g bd
  refine PEat.of (pe_cmp (pc_notN PEat.pe) rfl) (h S ρ σ H ow _ Ex _ r w (fun y v H' p e z h => ?_) bd)
  rw [h.isNon]
  rw [Bool.true_xor] at p
  exact (g.step e r.gr.fpo).sc p z fun _ => .bl _
/-- a < b < c, as a value -/
def wChain (op op2 : Op2) (wa wb wc : WE) : WE := fun ρ P Ex => wa ρ (fun x => wb ρ (fun y => op x y (fun k => match k with
  | .d (.bool true) => wc ρ (fun z => op2 y z P) Ex
  | .d (.bool false) => P (.d (.bool false))
  | _ => False)) Ex) Ex
theorem sim_chain {a b c : Expr} {wa wb wc : WE} {o o2 : CmpOp} {op op2 : Op2} (ho : OpR X (compareOp o) (rD CL Z X.K op)) (ho2 : OpR X (compareOp o2) (rD CL Z X.K op2)) (ha : SimE X W Z CL ow0 Hb a wa) (hb : SimE X W Z CL ow0 Hb b wb) (hc : SimE X W Z CL ow0 Hb c wc) 
    (hm : lastMarks [o, o2] [b, c] = false := by rfl) :
    SimE X W Z CL ow0 Hb (.Compare a [o, o2] [b, c] pos) (wChain op op2 wa wb wc) := by
  intro S ρ σ H ow P Ex Q r w g bd
  refine PEat.of (pe_chain ho ho2 PEat.pe PEat.pe PEat.pe hm) ?_
  refine two ha hb r bd w fun x y v u H' q e z h1 h2 => ⟨ow, H, x, y, _, r.gr.step e z, h1, h2, q, fun k t H'' p' e' z' q' => ?_⟩
  cases k with
  | d k =>
    cases k with
    | bool k =>
      cases (q' : Dt X.K (hid ow H'') t (.bool k))
      refine ⟨k, rfl, ?_⟩
      cases k with
      | true =>
        refine hc S ρ σ H'' ow _ Ex _ (r.step (e.trans e') z') p' (fun y3 v3 H3 p3 e3 z3 h3 => ?_) (bd.step (e.trans e'))
        exact ⟨ow, H, y, y3, P, r.gr.step ((e.trans e').trans e3) z3, h2.stay (e'.trans e3) r.gr.fpo, h3.back (e.trans e') r.gr.fpo, p3, g.step ((e.trans e').trans e3) r.gr.fpo⟩
      | false => exact (g.step (e.trans e') r.gr.fpo).sc p' z' fun _ => .bl _
    | _ => exact (p' : False).elim
  | _ => exact (p' : False).elim
end
end Pd

/-! Pd4: arguments, displays, calls of built-ins, subscripts, slices over data. -/
namespace Pd
open PySem PySem.Spec PyProof.Rows L2
section
variable {CL : Calls} {Z : Ext} {K : PySem.W.Frag} {ow : List Addr} {H0 H H' : Hp}
theorem RVs.stay : ∀ {vs : List V} {ys : List Val}, RVs Z CL K ow H0 H vs ys → SameBut (fp Z) H H' → (∀ a ∈ fp Z, a ∈ ow) → RVs Z CL K ow H0 H' vs ys
  | _, _, .nil, _, _ => .nil
  | _, _, .cons h t, e, f => .cons (h.stay e f) (RVs.stay t e f)
theorem RVs.back : ∀ {vs : List V} {ys : List Val} {H1 : Hp}, RVs Z CL K ow H1 H vs ys → SameBut (fp Z) H0 H1 → (∀ a ∈ fp Z, a ∈ ow) → RVs Z CL K ow H0 H vs ys
  | _, _, _, .nil, _, _ => .nil
  | _, _, _, .cons h t, e, f => .cons (h.back e f) (RVs.back t e f)
theorem RVs.length : ∀ {vs : List V} {ys : List Val}, RVs Z CL K ow H0 H vs ys → vs.length = ys.length
  | _, _, .nil => rfl
  | _, _, .cons _ t => by simp [RVs.length t]
/-- all, as data to be kept -/
def keeps : List Val → Option (List D)
  | [] => some []
  | y :: ys => match y.kp, keeps ys with
    | some d, some ds => some (d :: ds)
    | _, _ => none
theorem RVs.keeps : ∀ {vs : List V} {ys : List Val} {ds : List D}, RVs Z CL K ow H0 H vs ys → keeps ys = some ds → DtAll K (hid ow H) vs ds
  | _, _, _, .nil, e => by cases e; exact .nil
  | _, _ :: ys, ds, .cons (y := y) h t, e => by
    unfold Pd.keeps at e
    cases e1 : y.kp with
    | none => rw [e1] at e; cases e
    | some d =>
      cases e2 : Pd.keeps ys with
      | none => rw [e1, e2] at e; cases e
      | some es =>
        rw [e1, e2] at e
        cases e
        exact .cons (h.kp e1) (RVs.keeps t e2)
end

section
variable {X : Cx} {W : WX} {Z : Ext} {CL : Calls} {ow0 : List Addr} {Hb : Hp}
/-! ### arguments -/
def wNil : WA := fun _ P _ => P []
def wCons (w : WE) (ws : WA) : WA := fun ρ P Ex => w ρ (fun y => ws ρ (fun ys => P (y :: ys)) Ex) Ex
theorem sim_nil : SimA X W Z CL ow0 Hb [] wNil := fun S ρ σ H ow P Ex Q r w g b => PAat.of pa_nil (g [] [] H w (.refl _ _) r.gr.ext .nil)
theorem sim_cons {e : Expr} {es : List Expr} {we : WE} {ws : WA} (he : SimE X W Z CL ow0 Hb e we) (hs : SimA X W Z CL ow0 Hb es ws) (hst : starEach (e :: es) X.env = (false, eval e X.env) :: starEach es X.env := by rfl) : SimA X W Z CL ow0 Hb (e :: es) (wCons we ws) := by
  intro S ρ σ H ow P Ex Q r w g b
  refine PAat.of (pa_cons PEat.pe PAat.pa hst) (he S ρ σ H ow _ Ex _ r w (fun y v H1 p1 e1 z1 h1 => ?_) b)
  refine hs S ρ σ H1 ow _ Ex _ (r.step e1 z1) p1 (fun ys vs H2 p2 e2 z2 h2 => ?_) (b.step e1)
  exact g (y :: ys) (v :: vs) H2 p2 (e1.trans e2) z2 (.cons (h1.stay e2 r.gr.fpo) (h2.back e1 r.gr.fpo))
/-- *e among arguments or items -/
def wStar (w : WE) (ws : WA) : WA := fun ρ P Ex => w ρ (fun y => match y.rd with
  | some (.list ds) => ws ρ (fun ys => P (ds.map Val.d ++ ys)) Ex
  | some (.tuple ds) => ws ρ (fun ys => P (ds.map Val.d ++ ys)) Ex
  | _ => False) Ex
theorem RVs.ofAll {K : PySem.W.Frag} {ow : List Addr} {H0 H : Hp} : ∀ {vs : List V} {ds : List D}, DtAll K (hid ow H) vs ds → RVs Z CL K ow H0 H vs (ds.map Val.d)
  | _, _, .nil => .nil
  | _, _, .cons h t => .cons h (RVs.ofAll t)
theorem RVs.append {K : PySem.W.Frag} {ow : List Addr} {H0 H : Hp} : ∀ {vs ws : List V} {ys zs : List Val}, RVs Z CL K ow H0 H vs ys → RVs Z CL K ow H0 H ws zs → RVs Z CL K ow H0 H (vs ++ ws) (ys ++ zs)
  | _, _, _, _, .nil, s => s
  | _, _, _, _, .cons h t, s => .cons h (RVs.append t s)
theorem sim_star {e : Expr} {p : Pos} {es : List Expr} {we : WE} {ws : WA} (he : SimE X W Z CL ow0 Hb e we) (hs : SimA X W Z CL ow0 Hb es ws) (hst : starEach (.Starred e p :: es) X.env = (true, eval e X.env) :: starEach es X.env := by rfl) : SimA X W Z CL ow0 Hb (.Starred e p :: es) (wStar we ws) := by
  intro S ρ σ H ow P Ex Q r w g b
  refine PAat.of (StX.pa_star PEat.pe PAat.pa hst) (he S ρ σ H ow _ Ex _ r w (fun y v H1 p1 e1 z1 h1 => ?_) b)
  split at p1
  · rename_i ds ed
    obtain ⟨q, vs, rfl, hq, ha⟩ := h1.list ed
    refine ⟨q, vs, rfl, .inr (.inl (.of hq)), ?_⟩
    refine hs S ρ σ H1 ow _ Ex _ (r.step e1 z1) p1 (fun ys us H2 p2 e2 z2 h2 => ?_) (b.step e1)
    exact g _ _ H2 p2 (e1.trans e2) z2 (.append (.ofAll (DtAll.mono (hid_mono e2 r.gr.fpo fun _ m => .inl m) ha)) (h2.back e1 r.gr.fpo))
  · rename_i ds ed
    obtain ⟨q, vs, rfl, hq, ha⟩ := h1.tuple ed
    refine ⟨q, vs, rfl, .inl (hid_le.sqt hq), ?_⟩
    refine hs S ρ σ H1 ow _ Ex _ (r.step e1 z1) p1 (fun ys us H2 p2 e2 z2 h2 => ?_) (b.step e1)
    exact g _ _ H2 p2 (e1.trans e2) z2 (.append (.ofAll (DtAll.mono (hid_mono e2 r.gr.fpo fun _ m => .inl m) ha)) (h2.back e1 r.gr.fpo))
  · exact p1.elim

/-! ### displays -/
def wTup (w : WA) : WE := fun ρ P Ex => w ρ (fun ys => match keeps ys with
  | some ds => ds.length ≤ sizeLine ∧ P (.d (.tuple ds))
  | none => False) Ex
def wLst (w : WA) : WE := fun ρ P Ex => w ρ (fun ys => match keeps ys with
  | some ds => ds.length ≤ sizeLine ∧ P (.own ds)
  | none => False) Ex
theorem sim_tup {es : List Expr} {w : WA} {pos x1} (h : SimA X W Z CL ow0 Hb es w) : SimE X W Z CL ow0 Hb (.Tuple es x1 pos) (wTup w) := by
  intro S ρ σ H ow P Ex Q r w g b
  refine PEat.of (pe_tup PAat.pa) (h S ρ σ H ow _ Ex _ r w (fun ys vs H1 p1 e1 z1 h1 => ?_) b)
  split at p1
  · rename_i ds ed
    have ha := h1.keeps ed
    exact ⟨by rw [ha.length]; exact p1.1, fun p hp => (g.step e1 r.gr.fpo).tup p1.2 (r.gr.step e1 z1) hp ha⟩
  · exact p1.elim
theorem sim_lst {es : List Expr} {w : WA} {pos} (h : SimA X W Z CL ow0 Hb es w) : SimE X W Z CL ow0 Hb (.List es pos) (wLst w) := by
  intro S ρ σ H ow P Ex Q r w g b
  refine PEat.of (pe_lst PAat.pa) (h S ρ σ H ow _ Ex _ r w (fun ys vs H1 p1 e1 z1 h1 => ?_) b)
  split at p1
  · rename_i ds ed
    have ha := h1.keeps ed
    exact ⟨by rw [ha.length]; exact p1.1, fun p hp => (g.step e1 r.gr.fpo).lst p1.2 (r.gr.step e1 z1) hp ha⟩
  · exact p1.elim

/-! ### calls of built-ins -/
abbrev OpN := List Val → (Val → Prop) → Prop
def rC (CL : Calls) (Z : Ext) (K : PySem.W.Frag) (op : OpN) : List V → Hp → VK → Prop := fun vs H Q => ∃ ow H0 ys P, Gr Z ow H ∧ RVs Z CL K ow H0 H vs ys ∧ op ys P ∧ Gd CL Z K ow H P Q
def wCB (op : OpN) (w : WA) : WE := fun ρ P Ex => w ρ (fun ys => op ys P) Ex
theorem sim_callB {id : String} {x : Str} {p pos : Pos} {e : Expr} {es : List Expr} {w : WA} {op : OpN} (hc : CallR X (.builtin id) (rC CL Z X.K op)) (hg : Gl X x) (hm : X.mg x = none) (hv : bootBuiltins x = some (.builtin id)) (ha : SimA X W Z CL ow0 Hb (e :: es) w)
    (hn : x ≠ "__name__" := by decide) (hdb : (x == ("__debug__" : Str)) = false := by decide)
    (he : starEach (e :: es) X.env = (false, eval e X.env) :: starEach es X.env := by rfl) (hpl : (backTo pos (starEach es X.env)).any (·.1) = false := by rfl) : SimE X W Z CL ow0 Hb (.Call (.Name x p) (e :: es) [] pos) (wCB op w) := by
  intro S ρ σ H ow P Ex Q r w g b
  refine PEat.of (pe_callB hc hg hm hv PAat.pa hn hdb he hpl) (ha S ρ σ H ow _ Ex _ r w (fun ys vs H1 p1 e1 z1 h1 => ?_) b)
  exact ⟨ow, H, ys, P, r.gr.step e1 z1, h1, p1, g.step e1 r.gr.fpo⟩
theorem sim_callT {T : String} {x : Str} {p pos : Pos} {e : Expr} {es : List Expr} {w : WA} {op : OpN} (hc : CallR X (.type T) (rC CL Z X.K op)) (hg : Gl X x) (hm : X.mg x = none) (hv : bootBuiltins x = some (.type T)) (ha : SimA X W Z CL ow0 Hb (e :: es) w)
    (hn : x ≠ "__name__" := by decide) (hdb : (x == ("__debug__" : Str)) = false := by decide)
    (he : starEach (e :: es) X.env = (false, eval e X.env) :: starEach es X.env := by rfl) (hpl : (backTo pos (starEach es X.env)).any (·.1) = false := by rfl) : SimE X W Z CL ow0 Hb (.Call (.Name x p) (e :: es) [] pos) (wCB op w) := by
  intro S ρ σ H ow P Ex Q r w g b
  refine PEat.of (pe_callTy hc hg hm hv PAat.pa hn hdb he hpl) (ha S ρ σ H ow _ Ex _ r w (fun ys vs H1 p1 e1 z1 h1 => ?_) b)
  exact ⟨ow, H, ys, P, r.gr.step e1 z1, h1, p1, g.step e1 r.gr.fpo⟩
/-- one argument -/
def op1 (f : D → (Val → Prop) → Prop) : OpN := fun ys P => match ys with
  | [y] => match y.rd with
    | some d => f d P
    | none => False
  | _ => False
theorem one {K : PySem.W.Frag} {ow : List Addr} {H0 H : Hp} {vs : List V} {ys : List Val} {f : D → (Val → Prop) → Prop} {P : Val → Prop} (h : RVs Z CL K ow H0 H vs ys) (w : op1 f ys P) : ∃ v y d, vs = [v] ∧ RV CL Z K ow H0 H v y ∧ y.rd = some d ∧ f d P := by
  cases h with
  | nil => exact w.elim
  | cons h t =>
    cases t with
    | cons _ _ => exact w.elim
    | nil =>
      dsimp only [op1] at w
      split at w
      · rename_i d ed
        exact ⟨_, _, d, rfl, h, ed, w⟩
      · exact w.elim
def bLen : OpN := op1 fun d P => match d with
  | .str z => z.length ≤ sizeLine ∧ P (.d (.int z.length))
  | .list xs => P (.d (.int xs.length))
  | .tuple xs => P (.d (.int xs.length))
  | _ => False
theorem cd_len : CallR X (.builtin "len") (rC CL Z X.K bLen) := by
  intro pins s σ H vs us Q I rv h
  obtain ⟨ow, H0, ys, P, gr, hs, w, g⟩ := h
  obtain ⟨v, y, d, rfl, hy, ed, w⟩ := one hs w
  split at w
  · rename_i z
    rw [hy.str ed] at rv
    exact call_len pins s σ H _ us Q I rv ⟨_, z.length, rfl, ⟨w.1, rfl⟩, g.sc w.2 gr.ext fun _ => .int _⟩
  · rename_i xs
    obtain ⟨p, vs, rfl, hp, ha⟩ := hy.list ed
    exact call_len pins s σ H _ us Q I rv ⟨_, xs.length, rfl, .inl ⟨vs, .inl (.of hp), ha.length.symm⟩, g.sc w gr.ext fun _ => .int _⟩
  · rename_i xs
    obtain ⟨p, vs, rfl, hp, ha⟩ := hy.tuple ed
    exact call_len pins s σ H _ us Q I rv ⟨_, xs.length, rfl, .inr ⟨vs, hid_le.sqt hp, ha.length.symm⟩, g.sc w gr.ext fun _ => .int _⟩
  · exact w.elim
def bAbs : OpN := op1 fun d P => match d with
  | .int i => P (.d (.int (if i < 0 then -i else i)))
  | _ => False
theorem cd_abs : CallR X (.builtin "abs") (rC CL Z X.K bAbs) := by
  intro pins s σ H vs us Q I rv h
  obtain ⟨ow, H0, ys, P, gr, hs, w, g⟩ := h
  obtain ⟨v, y, d, rfl, hy, ed, w⟩ := one hs w
  split at w
  · rename_i z
    rw [hy.int ed] at rv
    exact call_abs pins s σ H _ us Q I rv ⟨_, rfl, g.sc w gr.ext fun _ => .int _⟩
  · exact w.elim
/-- two ints -/
def op2i (f : Int → Int → Int) : OpN := fun ys P => match ys with
  | [x, y] => match x.rd, y.rd with
    | some (.int i), some (.int j) => P (.d (.int (f i j)))
    | _, _ => False
  | _ => False
theorem twoI {K : PySem.W.Frag} {ow : List Addr} {H0 H : Hp} {vs : List V} {ys : List Val} {f : Int → Int → Int} {P : Val → Prop} (h : RVs Z CL K ow H0 H vs ys) (w : op2i f ys P) : ∃ i j, vs = [.int i, .int j] ∧ P (.d (.int (f i j))) := by
  cases h with
  | nil => exact w.elim
  | cons h t =>
    cases t with
    | nil => exact w.elim
    | cons h2 t2 =>
      cases t2 with
      | cons _ _ => exact w.elim
      | nil =>
        dsimp only [op2i] at w
        split at w
        · rename_i i j e1 e2
          exact ⟨i, j, by rw [h.int e1, h2.int e2], w⟩
        · exact w.elim
def bMax2 : OpN := op2i fun i j => if j > i then j else i
def bMin2 : OpN := op2i fun i j => if j < i then j else i
theorem cd_max2 (hc : X.calm = true) : CallR X (.builtin "max") (rC CL Z X.K bMax2) := by
  intro pins s σ H vs us Q I rv h
  obtain ⟨ow, H0, ys, P, gr, hs, w, g⟩ := h
  obtain ⟨i, j, rfl, w⟩ := twoI hs w
  exact call_max2 hc pins s σ H _ us Q I rv ⟨i, j, rfl, g.sc w gr.ext fun _ => .int _⟩
theorem cd_min2 (hc : X.calm = true) : CallR X (.builtin "min") (rC CL Z X.K bMin2) := by
  intro pins s σ H vs us Q I rv h
  obtain ⟨ow, H0, ys, P, gr, hs, w, g⟩ := h
  obtain ⟨i, j, rfl, w⟩ := twoI hs w
  exact call_min2 hc pins s σ H _ us Q I rv ⟨i, j, rfl, g.sc w gr.ext fun _ => .int _⟩
def bInt : OpN := op1 fun d P => match d with
  | .int i => P (.d (.int i))
  | .bool b => P (.d (.int (if b then 1 else 0)))
  | _ => False
theorem cd_int : CallR X (.type "int") (rC CL Z X.K bInt) := by
  intro pins s σ H vs us Q I rv h
  obtain ⟨ow, H0, ys, P, gr, hs, w, g⟩ := h
  obtain ⟨v, y, d, rfl, hy, ed, w⟩ := one hs w
  split at w
  · rw [hy.int ed] at rv
    exact call_int1 pins s σ H _ us Q I rv (.inl ⟨_, rfl, g.sc w gr.ext fun _ => .int _⟩)
  · rw [hy.bool ed] at rv
    exact call_int1 pins s σ H _ us Q I rv (.inr ⟨_, rfl, g.sc w gr.ext fun _ => .int _⟩)
  · exact w.elim
/-- tuple(a list or a tuple), list(..) -/
def bTuple : OpN := op1 fun d P => match d with
  | .list xs => P (.d (.tuple xs))
  | .tuple xs => P (.d (.tuple xs))
  | _ => False
theorem cd_tuple : CallR X (.type "tuple") (rC CL Z X.K bTuple) := by
  intro pins s σ H vs us Q I rv h
  obtain ⟨ow, H0, ys, P, gr, hs, w, g⟩ := h
  obtain ⟨v, y, d, rfl, hy, ed, w⟩ := one hs w
  split at w
  · obtain ⟨p, vs, rfl, hp, ha⟩ := hy.list ed
    exact call_tuple_of pins s σ H _ us Q I rv ⟨p, vs, rfl, .inl ⟨.inl (.of hp), fun l hl => g.tup w gr hl ha⟩⟩
  · obtain ⟨p, vs, rfl, hp, ha⟩ := hy.tuple ed
    exact call_tuple_of pins s σ H _ us Q I rv ⟨p, vs, rfl, .inr ⟨hid_le.sqt hp, g _ _ H w (.refl _ _) gr.ext (.tup hp ha)⟩⟩
  · exact w.elim
def bList : OpN := op1 fun d P => match d with
  | .list xs => P (.own xs)
  | .tuple xs => P (.own xs)
  | _ => False
theorem cd_list : CallR X (.type "list") (rC CL Z X.K bList) := by
  intro pins s σ H vs us Q I rv h
  obtain ⟨ow, H0, ys, P, gr, hs, w, g⟩ := h
  obtain ⟨v, y, d, rfl, hy, ed, w⟩ := one hs w
  split at w
  · obtain ⟨p, vs, rfl, hp, ha⟩ := hy.list ed
    exact call_list_of pins s σ H _ us Q I rv ⟨p, vs, rfl, .inl (.inl (.of hp)), fun l hl => g.lst w gr hl ha⟩
  · obtain ⟨p, vs, rfl, hp, ha⟩ := hy.tuple ed
    exact call_list_of pins s σ H _ us Q I rv ⟨p, vs, rfl, .inr (hid_le.sqt hp), fun l hl => g.lst w gr hl ha⟩
  · exact w.elim
/-- ints in a row -/
def intsOf : List D → Option (List Int)
  | [] => some []
  | .int i :: r => (intsOf r).map (i :: ·)
  | _ :: _ => none
theorem intsOf_eq : ∀ {xs : List D} {ns : List Int}, intsOf xs = some ns → xs = ns.map .int
  | [], _, e => by cases e; rfl
  | .int i :: r, ns, e => by
    unfold intsOf at e
    cases q : intsOf r with
    | none => rw [q] at e; cases e
    | some ms =>
      rw [q] at e
      cases e
      rw [intsOf_eq q]
      rfl
  | .none :: _, _, e => by cases e
  | .bool _ :: _, _, e => by cases e
  | .str _ :: _, _, e => by cases e
  | .list _ :: _, _, e => by cases e
  | .tuple _ :: _, _, e => by cases e
  | .dict _ :: _, _, e => by cases e
theorem intsOf_map : ∀ ns : List Int, intsOf (ns.map .int) = some ns
  | [] => rfl
  | n :: ns => by
    show (intsOf (ns.map .int)).map (n :: ·) = _
    rw [intsOf_map ns]
    rfl
def boolsOf : List D → Option (List Bool)
  | [] => some []
  | .bool i :: r => (boolsOf r).map (i :: ·)
  | _ :: _ => none
theorem boolsOf_eq : ∀ {xs : List D} {ns : List Bool}, boolsOf xs = some ns → xs = ns.map .bool
  | [], _, e => by cases e; rfl
  | .bool i :: r, ns, e => by
    unfold boolsOf at e
    cases q : boolsOf r with
    | none => rw [q] at e; cases e
    | some ms =>
      rw [q] at e
      cases e
      rw [boolsOf_eq q]
      rfl
  | .none :: _, _, e => by cases e
  | .int _ :: _, _, e => by cases e
  | .str _ :: _, _, e => by cases e
  | .list _ :: _, _, e => by cases e
  | .tuple _ :: _, _, e => by cases e
  | .dict _ :: _, _, e => by cases e
theorem boolsOf_map : ∀ ns : List Bool, boolsOf (ns.map .bool) = some ns
  | [] => rfl
  | n :: ns => by
    show (boolsOf (ns.map .bool)).map (n :: ·) = _
    rw [boolsOf_map ns]
    rfl
def bAll : OpN := op1 fun d P => match d with
  | .list xs => match boolsOf xs with
    | some bs => P (.d (.bool (bs.all id)))
    | none => False
  | _ => False
theorem cd_all (hc : X.calm = true) : CallR X (.builtin "all") (rC CL Z X.K bAll) := by
  intro pins s σ H vs us Q I rv h
  obtain ⟨ow, H0, ys, P, gr, hs, w, g⟩ := h
  obtain ⟨v, y, d, rfl, hy, ed, w⟩ := one hs w
  split at w
  · split at w
    · rename_i xs bs e
      obtain ⟨p, vs, rfl, hp, ha⟩ := hy.list ed
      rw [boolsOf_eq e] at ha
      rw [ha.bools] at hp
      exact cr_all hc pins s σ H _ us Q I rv ⟨p, bs, rfl, .inl (.of hp), g.sc w gr.ext fun _ => .bl _⟩
    · exact w.elim
  · exact w.elim
def bAny : OpN := op1 fun d P => match d with
  | .list xs => match boolsOf xs with
    | some bs => P (.d (.bool (bs.any id)))
    | none => False
  | _ => False
theorem cd_any (hc : X.calm = true) : CallR X (.builtin "any") (rC CL Z X.K bAny) := by
  intro pins s σ H vs us Q I rv h
  obtain ⟨ow, H0, ys, P, gr, hs, w, g⟩ := h
  obtain ⟨v, y, d, rfl, hy, ed, w⟩ := one hs w
  split at w
  · split at w
    · rename_i xs bs e
      obtain ⟨p, vs, rfl, hp, ha⟩ := hy.list ed
      rw [boolsOf_eq e] at ha
      rw [ha.bools] at hp
      exact cr_any hc pins s σ H _ us Q I rv ⟨p, bs, rfl, .inl (.of hp), g.sc w gr.ext fun _ => .bl _⟩
    · exact w.elim
  · exact w.elim
/-- sum of ints -/
def bSum : OpN := op1 fun d P => match d with
  | .list xs => match intsOf xs with
    | some ns => P (.d (.int ns.sum))
    | none => False
  | .tuple xs => match intsOf xs with
    | some ns => P (.d (.int ns.sum))
    | none => False
  | _ => False
theorem sum_tup {pins : List (Addr × Obj)} {σ : L2.St} {s : Shared} {H : Hp} {p : Addr} {ns : List Int} {Q : VK} (hc : X.calm = true) (I : Inv X pins σ H s) (h : SqT X.K H p (ns.map V.int)) (q : Q (.int ns.sum) H) : wpAny (model X.prog X.w) X.A (call (.builtin "sum") [.ref p]) (EP X pins σ Q) X.xe s := by
  obtain ⟨its, rv, hl, _⟩ := I.tuple h
  have hi := rv.ints
  obtain ⟨xs, hx⟩ := hi.allInts.items
  have hn : numsOf its.toArray.toList = ns := by rw [show its.toArray.toList = its from rfl, hi.numsOf]
  have hl : s.heap.IsTuple p its.toArray := hl
  rw [hx] at hl hn
  rw [nums_intItems] at hn
  refine PySem.W.ktm_sumG (I.ok.hd hc) hl fun h' tk t' hk => ⟨.int _, H, I.kept hk, ⟨t', ?_⟩, q⟩
  rw [preSum_eq, List.take_of_length_le (by simp), hn]
theorem cd_sum (hc : X.calm = true) : CallR X (.builtin "sum") (rC CL Z X.K bSum) := by
  intro pins s σ H vs us Q I rv h
  obtain ⟨ow, H0, ys, P, gr, hs, w, g⟩ := h
  obtain ⟨v, y, d, rfl, hy, ed, w⟩ := one hs w
  split at w
  · split at w
    · rename_i xs bs e
      obtain ⟨p, vs, rfl, hp, ha⟩ := hy.list ed
      rw [intsOf_eq e] at ha
      rw [ha.ints] at hp
      exact cr_sum hc pins s σ H _ us Q I rv ⟨p, bs, rfl, .inl (.of hp), g.sc w gr.ext fun _ => .int _⟩
    · exact w.elim
  · split at w
    · rename_i xs bs e
      obtain ⟨p, vs, rfl, hp, ha⟩ := hy.tuple ed
      rw [intsOf_eq e] at ha
      rw [ha.ints] at hp
      rw [Vals.ref1 rv]
      exact sum_tup hc I (hid_le.sqt hp) (g.sc w gr.ext fun _ => .int _)
    · exact w.elim
  · exact w.elim
/-! ### isinstance -/
def wIsi (f : D → Bool) (w : WE) : WE := fun ρ P Ex => w ρ (fun y => match y.rd with
  | some d => P (.d (.bool (f d)))
  | none => False) Ex
end
end Pd

/-! Pd5: isinstance, repr, sorted, subscripts, slices over data. -/
namespace Pd
open PySem PySem.Spec PyProof.Rows L2
section
variable {X : Cx} {W : WX} {Z : Ext} {CL : Calls} {ow0 : List Addr} {Hb : Hp}
/-! ### isinstance of data by a built-in class -/
def rIs (CL : Calls) (Z : Ext) (K : PySem.W.Frag) (T : String) (f : D → Bool) : List V → Hp → VK → Prop := fun xs H Q => ∃ v d, xs = [v, .ty T] ∧ Dt K H v d ∧ Q (.bl (f d)) H
def isIntD : D → Bool
  | .int _ => true
  | .bool _ => true
  | _ => false
def isBoolD : D → Bool
  | .bool _ => true
  | _ => false
def isStrD : D → Bool
  | .str _ => true
  | _ => false
def isTupleD : D → Bool
  | .tuple _ => true
  | _ => false
def isListD : D → Bool
  | .list _ => true
  | _ => false
theorem ci_int : CallR X (.builtin "isinstance") (rIs CL Z X.K "int" isIntD) := by
  intro pins s σ H xs us Q I r h
  obtain ⟨v, d, rfl, hd, q⟩ := h
  cases r with
  | cons r1 r2 =>
    cases r2 with
    | cons r2 r3 =>
      cases r3
      cases r2
      obtain ⟨as, rd⟩ := Dp.reads I d v _ hd.dp r1
      exact PySem.W.isinstance_int_data rd fun tk _ => ⟨.bl (isIntD d), H, I.tok tk, by cases d <;> rfl, q⟩
theorem ci_bool : CallR X (.builtin "isinstance") (rIs CL Z X.K "bool" isBoolD) := by
  intro pins s σ H xs us Q I r h
  obtain ⟨v, d, rfl, hd, q⟩ := h
  cases r with
  | cons r1 r2 =>
    cases r2 with
    | cons r2 r3 =>
      cases r3
      cases r2
      obtain ⟨as, rd⟩ := Dp.reads I d v _ hd.dp r1
      exact PySem.W.isinstance_bool_data rd fun tk _ => ⟨.bl (isBoolD d), H, I.tok tk, by cases d <;> rfl, q⟩
theorem ci_str : CallR X (.builtin "isinstance") (rIs CL Z X.K "str" isStrD) := by
  intro pins s σ H xs us Q I r h
  obtain ⟨v, d, rfl, hd, q⟩ := h
  cases r with
  | cons r1 r2 =>
    cases r2 with
    | cons r2 r3 =>
      cases r3
      cases r2
      obtain ⟨as, rd⟩ := Dp.reads I d v _ hd.dp r1
      exact PySem.W.isinstance_str_data rd fun tk _ => ⟨.bl (isStrD d), H, I.tok tk, by cases d <;> rfl, q⟩
theorem ci_tuple : CallR X (.builtin "isinstance") (rIs CL Z X.K "tuple" isTupleD) := by
  intro pins s σ H xs us Q I r h
  obtain ⟨v, d, rfl, hd, q⟩ := h
  cases r with
  | cons r1 r2 =>
    cases r2 with
    | cons r2 r3 =>
      cases r3
      cases r2
      obtain ⟨as, rd⟩ := Dp.reads I d v _ hd.dp r1
      exact PySem.W.isinstance_tuple_data rd fun tk _ => ⟨.bl (isTupleD d), H, I.tok tk, by cases d <;> rfl, q⟩
theorem ci_list : CallR X (.builtin "isinstance") (rIs CL Z X.K "list" isListD) := by
  intro pins s σ H xs us Q I r h
  obtain ⟨v, d, rfl, hd, q⟩ := h
  cases r with
  | cons r1 r2 =>
    cases r2 with
    | cons r2 r3 =>
      cases r3
      cases r2
      obtain ⟨as, rd⟩ := Dp.reads I d v _ hd.dp r1
      exact PySem.W.isinstance_list_data rd fun tk _ => ⟨.bl (isListD d), H, I.tok tk, by cases d <;> rfl, q⟩
theorem sim_isi {T : String} {f : D → Bool} {t : Str} {p pt pos : Pos} {e : Expr} {we : WE} (hc : CallR X (.builtin "isinstance") (rIs CL Z X.K T f)) (hg : Gl X "isinstance") (hm : X.mg "isinstance" = none) (ht : Gl X t) (hmt : X.mg t = none) (hv : bootBuiltins t = some (.type T))
    (h : SimE X W Z CL ow0 Hb e we) (hn : t ≠ "__name__" := by decide) (hdb : (t == ("__debug__" : Str)) = false := by decide)
    (hst : starEach [e, .Name t pt] X.env = (false, eval e X.env) :: starEach [.Name t pt] X.env := by rfl) (hpl : (backTo pos (starEach [.Name t pt] X.env)).any (·.1) = false := by rfl)
    (hbi : bootBuiltins "isinstance" = some (.builtin "isinstance") := by decide +kernel) : SimE X W Z CL ow0 Hb (.Call (.Name "isinstance" p) [e, .Name t pt] [] pos) (wIsi f we) := by
  intro S ρ σ H ow P Ex Q r w g b
  refine PEat.of (pe_callB hc hg hm hbi (pa_cons PEat.pe (pa_cons (pe_bltn (v := .ty T) ht hmt hv rfl hn hdb) pa_nil) hst) (by decide) (by decide) hst hpl) ?_
  refine h S ρ σ H ow _ Ex _ r w (fun y v H1 p1 e1 z1 h1 => ?_) b
  split at p1
  · rename_i d ed
    exact ⟨v, d, rfl, h1.rd ed, (g.step e1 r.gr.fpo).sc p1 z1 fun _ => .bl _⟩
  · exact p1.elim

/-! ### repr -/
def bRepr : OpN := op1 fun d P => d.showable = true ∧ d.shown.length ≤ sizeLine ∧ d.depth ≤ 100 ∧ P (.d (.str d.shown))
mutual
theorem noDict : ∀ {d : D}, d.plain = true → d.hasDict = false
  | .none, _ => by simp only [PyData.hasDict]
  | .bool _, _ => by simp only [PyData.hasDict]
  | .int _, _ => by simp only [PyData.hasDict]
  | .str _, _ => by simp only [PyData.hasDict]
  | .list xs, h => by simp only [PyData.hasDict]; exact noDicts (by simpa [PyData.plain] using h)
  | .tuple xs, h => by simp only [PyData.hasDict]; exact noDicts (by simpa [PyData.plain] using h)
  | .dict _, h => by simp [PyData.plain] at h
theorem noDicts : ∀ {ds : List D}, PyData.plainAll ds = true → PyData.hasDictAll ds = false
  | [], _ => by simp only [PyData.hasDictAll]
  | x :: xs, h => by
    simp only [PyData.plainAll, Bool.and_eq_true] at h
    simp only [PyData.hasDictAll, noDict h.1, noDicts h.2, Bool.or_self]
end
theorem cd_repr (hg : X.A.guards = some []) (hu : X.A.units + 200 < cLine) : CallR X (.builtin "repr") (rC CL Z X.K bRepr) := by
  intro pins s σ H vs us Q I rv h
  obtain ⟨ow, H0, ys, P, gr, hs, w, g⟩ := h
  obtain ⟨v, y, d, rfl, hy, ed, w1, w2, w3, w⟩ := one hs w
  cases rv with
  | cons r1 r2 =>
    cases r2
    rename_i u
    obtain ⟨as, rd⟩ := hy.reads I ed r1
    have fin : ∀ h' tk t', (∀ b o, s.heap.get? b = some o → h'.get? b = some o) → EP X pins σ Q (.str d.shown t') { s with heap := h', toks := tk } := fun h' tk t' hk => ⟨.str _, H, I.kept hk, ⟨t', rfl⟩, g.sc w gr.ext fun _ => .str _⟩
    have hd := noDict (hy.plain ed)
    cases d with
    | none =>
      cases rd
      exact PySem.P.repr_of_none (by simpa [PyData.shown] using fin s.heap (s.toks + 1) s.toks fun _ _ e => e)
    | bool b =>
      cases rd
      exact PySem.P.repr_of_bool (by simpa [PyData.shown] using fin s.heap (s.toks + 1) s.toks fun _ _ e => e)
    | int i =>
      cases rd
      exact PySem.P.repr_of_int (by simpa [PyData.showable] using w1) (by simpa [PyData.shown] using fin s.heap (s.toks + 1) s.toks fun _ _ e => e)
    | str z =>
      cases rd
      exact PySem.P.repr_of_str (by simpa [PyData.shown] using fin s.heap (s.toks + 1) s.toks fun _ _ e => e) (by simpa [PyData.shown] using w2)
    | list xs =>
      cases rd with
      | list h1 h2 h3 h4 => exact repr_of_reads' (.list h1 h2 h3 h4) w1 (fun z => by rw [hd] at z; cases z) hg (by omega) (fun _ _ e => e) (fun h' u tk hk => fin h' tk u hk) w2
    | tuple xs =>
      cases rd with
      | tuple h1 h2 h3 h4 => exact repr_of_reads' (.tuple h1 h2 h3 h4) w1 (fun z => by rw [hd] at z; cases z) hg (by omega) (fun _ _ e => e) (fun h' u tk hk => fin h' tk u hk) w2
    | dict _ => exact absurd (hy.plain ed) (by simp [PyData.plain])
/-! ### subscripts -/
def opIx : Op2 := fun a b P => match a.rd, b.rd with
  | some (.list xs), some (.int i) => match atI xs i with
    | some d => P (.d d)
    | none => False
  | some (.tuple xs), some (.int i) => match atI xs i with
    | some d => P (.d d)
    | none => False
  | some (.str z), some (.int i) => z.length ≤ sizeLine ∧ match atI z.cps.toList i with
    | some c => P (.d (.str ⟨#[c]⟩))
    | none => False
  | _, _ => False
theorem DtAll.atI {K : PySem.W.Frag} {H : Hp} {vs : List V} {ds : List D} {i : Int} {d : D} (h : DtAll K H vs ds) (e : L2.atI ds i = some d) : ∃ v, L2.atI vs i = some v ∧ Dt K H v d := by
  unfold L2.atI at e ⊢
  rw [h.length]
  cases q : ixN ds.length i with
  | none => rw [q] at e; cases e
  | some j =>
    rw [q] at e
    exact h.get e
theorem ir_ix : IxR X (rD CL Z X.K opIx) := by
  intro value slice pins s σ H x y v u Q I rx ry h hs
  obtain ⟨ow, H0, a, b, P, gr, ha, hb, w, g⟩ := h
  unfold opIx at w
  split at w
  · rename_i xs i e1 e2
    split at w
    · rename_i d ed
      obtain ⟨p, vs, rfl, hp, hA⟩ := ha.list e1
      rw [hb.int e2] at ry
      obtain ⟨z, h1, h2⟩ := hA.atI ed
      exact ix_list value slice pins s σ H _ _ v u Q I rx ry ⟨p, vs, i, z, rfl, rfl, .inl (.of hp), h1, g _ _ H w (.refl _ _) gr.ext h2⟩ hs
    · exact w.elim
  · rename_i xs i e1 e2
    split at w
    · rename_i d ed
      obtain ⟨p, vs, rfl, hp, hA⟩ := ha.tuple e1
      rw [hb.int e2] at ry
      obtain ⟨z, h1, h2⟩ := hA.atI ed
      exact ix_tup value slice pins s σ H _ _ v u Q I rx ry ⟨p, vs, i, z, rfl, rfl, hid_le.sqt hp, h1, g _ _ H w (.refl _ _) gr.ext h2⟩ hs
    · exact w.elim
  · rename_i z i e1 e2
    obtain ⟨wl, w⟩ := w
    split at w
    · rename_i c ec
      rw [ha.str e1] at rx
      rw [hb.int e2] at ry
      exact ix_str value slice pins s σ H _ _ v u Q I rx ry ⟨z, i, c, rfl, rfl, wl, ec, g.sc w gr.ext fun _ => .str _⟩ hs
    · exact w.elim
  · exact w.elim
theorem sim_ix {ea eb : Expr} {wa wb : WE} {pos : Pos} (ha : SimE X W Z CL ow0 Hb ea wa) (hb : SimE X W Z CL ow0 Hb eb wb) (hs : PlainIx eb := by intro _ _; rfl) : SimE X W Z CL ow0 Hb (.Subscript ea eb pos) (wOp opIx wa wb) := by
  intro S ρ σ H ow P Ex Q r w g b
  refine PEat.of (pe_ix (ir_ix (Z := Z) (CL := CL)) PEat.pe PEat.pe hs) ?_
  exact two ha hb r b w fun x y v u H' q e z h1 h2 => ⟨ow, H, x, y, P, r.gr.step e z, h1, h2, q, g.step e r.gr.fpo⟩

/-! ### slices -/
abbrev WO := Ev → (Option Int → Prop) → (Xn → Prop) → Prop
def POat (X : Cx) (e : Option Expr) : TO := fun σ H Q => ∀ pins s, Inv X pins σ H s → wpAny (model X.prog X.w) X.A (evalPart e X.env) (fun u s' => ∃ o H', Inv X pins σ H' s' ∧ IsPart u o ∧ Q o H') X.xe s
theorem POat.po {e : Option Expr} : PO X e (POat X e) := ⟨fun pins s σ H Q I h => h pins s I⟩
theorem POat.of {e : Option Expr} {t : TO} (h : PO X e t) {σ : L2.St} {H : Hp} {Q : Option Int → Hp → Prop} (q : t σ H Q) : POat X e σ H Q := fun pins s I => h.run pins s σ H Q I q
def SimO (X : Cx) (W : WX) (Z : Ext) (CL : Calls) (ow0 : List Addr) (Hb : Hp) (e : Option Expr) (w : WO) : Prop := ∀ (S : Hp) (ρ : Ev) (σ : L2.St) (H : Hp) (ow : List Addr) (P : Option Int → Prop) (Ex : Xn → Prop) (Q : Option Int → Hp → Prop),
  Rel CL Z X.K ow0 Hb S ρ σ H ow → w ρ P Ex → (∀ o H', P o → SameBut (fp Z) H H' → RZ Z H' → Q o H') → Bd Z X.K ow X.mg W σ H Ex → POat X e σ H Q
def wNo : WO := fun _ P _ => P none
def wSo (w : WE) : WO := fun ρ P Ex => w ρ (fun y => match y.rd with
  | some (.int i) => P (some i)
  | _ => False) Ex
theorem sim_no : SimO X W Z CL ow0 Hb none wNo := fun S ρ σ H ow P Ex Q r w g b => POat.of po_none (g none H w (.refl _ _) r.gr.ext)
theorem sim_so {e : Expr} {we : WE} (h : SimE X W Z CL ow0 Hb e we) : SimO X W Z CL ow0 Hb (some e) (wSo we) := by
  intro S ρ σ H ow P Ex Q r w g b
  refine POat.of (po_some PEat.pe) (h S ρ σ H ow _ Ex _ r w (fun y v H1 p1 e1 z1 h1 => ?_) b)
  split at p1
  · rename_i i ei
    exact ⟨i, h1.int ei, g _ _ p1 e1 z1⟩
  · exact p1.elim
def cutG {α : Type} (xs : List α) (lo hi : Option Int) : List α := (xs.drop (HT.sIx xs.length 0 lo)).take (HT.sIx xs.length xs.length hi - HT.sIx xs.length 0 lo)
theorem DtAll.cut {K : PySem.W.Frag} {H : Hp} {vs : List V} {ds : List D} (h : DtAll K H vs ds) (lo hi : Option Int) : DtAll K H (cutV vs lo hi) (cutG ds lo hi) := by
  unfold cutV cutG
  rw [h.length]
  exact (h.drop _).take _
def opSl (a : Val) (lo hi : Option Int) (P : Val → Prop) : Prop := match a.rd with
  | some (.list xs) => P (.own (cutG xs lo hi))
  | some (.tuple xs) => P (.d (.tuple (cutG xs lo hi)))
  | some (.str z) => z.length ≤ sizeLine ∧ P (.d (.str (cutS z lo hi)))
  | _ => False
def wSl (w : WE) (wl wh : WO) : WE := fun ρ P Ex => w ρ (fun x => wl ρ (fun lo => wh ρ (fun hi => opSl x lo hi P) Ex) Ex) Ex
theorem cut_whole {α : Type} {xs : List α} {lo hi : Option Int} (h : HT.sIx xs.length 0 lo = 0 ∧ HT.sIx xs.length xs.length hi = xs.length) : cutG xs lo hi = xs := by
  unfold cutG
  rw [h.1, h.2]
  simp
theorem sr_sl : SlR X (fun v lo hi H Q => ∃ ow H0 a P, Gr Z ow H ∧ RV CL Z X.K ow H0 H v a ∧ opSl a lo hi P ∧ Gd CL Z X.K ow H P Q) := by
  intro pins s σ H x v vl vu lo hi sl Q I rx hs pl pu h
  obtain ⟨ow, H0, a, P, gr, ha, w, g⟩ := h
  unfold opSl at w
  split at w
  · rename_i xs e
    obtain ⟨p, vs, rfl, hp, hA⟩ := ha.list e
    exact sl_list pins s σ H _ v vl vu lo hi sl Q I rx hs pl pu ⟨p, vs, rfl, .inl (.of hp), fun q hq => g.lst w gr hq (hA.cut lo hi)⟩
  · rename_i xs e
    obtain ⟨p, vs, rfl, hp, hA⟩ := ha.tuple e
    refine sl_tupA pins s σ H _ v vl vu lo hi sl Q I rx hs pl pu ⟨p, vs, rfl, hid_le.sqt hp, fun z => ?_, fun _ q hq => g.tup w gr hq (hA.cut lo hi)⟩
    rw [hA.length] at z
    rw [cut_whole z] at w
    exact g _ _ H w (.refl _ _) gr.ext (.tup hp hA)
  · rename_i z e
    rw [ha.str e] at rx
    exact sl_str pins s σ H _ v vl vu lo hi sl Q I rx hs pl pu ⟨z, rfl, w.1, g.sc w.2 gr.ext fun _ => .str _⟩
  · exact w.elim
theorem sim_sl {e : Expr} {lo hi : Option Expr} {we : WE} {wl wh : WO} {p2 pos : Pos} (h : SimE X W Z CL ow0 Hb e we) (hl : SimO X W Z CL ow0 Hb lo wl) (hh : SimO X W Z CL ow0 Hb hi wh) : SimE X W Z CL ow0 Hb (.Subscript e (.Slice lo hi none p2) pos) (wSl we wl wh) := by
  intro S ρ σ H ow P Ex Q r w g b
  refine PEat.of (pe_slice (sr_sl (Z := Z) (CL := CL)) PEat.pe POat.po POat.po) ?_
  refine h S ρ σ H ow _ Ex _ r w (fun y v H1 p1 e1 z1 h1 => ?_) b
  refine hl S ρ σ H1 ow _ Ex _ (r.step e1 z1) p1 (fun lo H2 p2 e2 z2 => ?_) (b.step e1)
  refine hh S ρ σ H2 ow _ Ex _ (r.step (e1.trans e2) z2) p2 (fun hi H3 p3 e3 z3 => ?_) (b.step (e1.trans e2))
  exact ⟨ow, H, y, P, r.gr.step ((e1.trans e2).trans e3) z3, h1.stay (e2.trans e3) r.gr.fpo, p3, g.step ((e1.trans e2).trans e3) r.gr.fpo⟩
end
end Pd

/-! Pd6: statements over data: stores, branches, ends, lists that grow, raise. -/
namespace Pd
open PySem PySem.Spec PyProof.Rows L2

def PSat (X : Cx) (st : Stmt) : TS := fun D σ H => ∀ pins s, Inv X pins σ H s → wpAny (model X.prog X.w) X.A (exec st X.env) (SP X pins D) X.xe s
theorem PSat.ps {X : Cx} {st : Stmt} : PS X st (PSat X st) := ⟨fun pins s σ H D I h => h pins s I⟩
theorem PSat.of {X : Cx} {st : Stmt} {t : TS} (h : PS X st t) {D : L2.Ends} {σ : L2.St} {H : Hp} (q : t D σ H) : PSat X st D σ H := fun pins s I => h.run pins s σ H D I q
def PSsat (X : Cx) (st : List Stmt) : TS := fun D σ H => ∀ pins s, Inv X pins σ H s → wpAny (model X.prog X.w) X.A (execs st X.env) (SP X pins D) X.xe s
theorem PSsat.ps {X : Cx} {st : List Stmt} : PSs X st (PSsat X st) := ⟨fun pins s σ H D I h => h pins s I⟩
theorem PSsat.of {X : Cx} {st : List Stmt} {t : TS} (h : PSs X st t) {D : L2.Ends} {σ : L2.St} {H : Hp} (q : t D σ H) : PSsat X st D σ H := fun pins s I => h.run pins s σ H D I q

/-- what is wanted over data is what is wanted over the heap -/
structure DOK (X : Cx) (W : WX) (Z : Ext) (CL : Calls) (ow0 : List Addr) (Hb : Hp) (S : Hp) (E : En) (D : L2.Ends) : Prop where
  nx : ∀ ρ σ H ow, E.nx ρ → Rel CL Z X.K ow0 Hb S ρ σ H ow → D.nx σ H
  bk : ∀ ρ σ H ow, E.bk ρ → Rel CL Z X.K ow0 Hb S ρ σ H ow → D.bk σ H
  ct : ∀ ρ σ H ow, E.ct ρ → Rel CL Z X.K ow0 Hb S ρ σ H ow → D.ct σ H
  rt : ∀ y v H, E.rt y → SameBut (fp Z) Hb H → RZ Z H → RV CL Z X.K ow0 Hb H v y → D.rt v H
  ex : ∀ x ρ σ H ow cls d, E.ex x ρ → Rel CL Z X.K ow0 Hb S ρ σ H ow → ExR X.K ow X.mg x cls d H → W cls d σ H
section
variable (X : Cx) (W : WX) (Z : Ext) (CL : Calls) (ow0 : List Addr) (Hb : Hp)
def SimS (st : Stmt) (w : WS) : Prop := ∀ (S : Hp) (ρ : Ev) (σ : L2.St) (H : Hp) (ow : List Addr) (E : En) (D : L2.Ends),
  Rel CL Z X.K ow0 Hb S ρ σ H ow → w E ρ → DOK X W Z CL ow0 Hb S E D → PSat X st D σ H
def SimSs (st : List Stmt) (w : WS) : Prop := ∀ (S : Hp) (ρ : Ev) (σ : L2.St) (H : Hp) (ow : List Addr) (E : En) (D : L2.Ends),
  Rel CL Z X.K ow0 Hb S ρ σ H ow → w E ρ → DOK X W Z CL ow0 Hb S E D → PSsat X st D σ H
end
section
variable {X : Cx} {W : WX} {Z : Ext} {CL : Calls} {ow0 : List Addr} {Hb : Hp}
theorem DOK.bd {S : Hp} {E : En} {D : L2.Ends} (o : DOK X W Z CL ow0 Hb S E D) {ρ : Ev} {σ : L2.St} {H : Hp} {ow : List Addr} (r : Rel CL Z X.K ow0 Hb S ρ σ H ow) : Bd Z X.K ow X.mg W σ H (fun x => E.ex x ρ) :=
  fun x cls d H' p er e z => o.ex x ρ σ H' ow cls d p (r.step e z) er
theorem DOK.with {S : Hp} {E : En} {D : L2.Ends} (o : DOK X W Z CL ow0 Hb S E D) {n : Ev → Prop} {m : L2.St → Hp → Prop} (h : ∀ ρ σ H ow, n ρ → Rel CL Z X.K ow0 Hb S ρ σ H ow → m σ H) : DOK X W Z CL ow0 Hb S { E with nx := n } { D with nx := m } := ⟨h, o.bk, o.ct, o.rt, o.ex⟩
/-! ### blocks -/
def wSkip : WS := fun E ρ => E.nx ρ
def wSeq (a b : WS) : WS := fun E ρ => a { E with nx := fun ρ' => b E ρ' } ρ
theorem sim_bnil : SimSs X W Z CL ow0 Hb [] wSkip := fun S ρ σ H ow E D r w o => PSsat.of pss_nil (o.nx ρ σ H ow w r)
theorem sim_bcons {st : Stmt} {rest : List Stmt} {a b : WS} (h1 : SimS X W Z CL ow0 Hb st a) (h2 : SimSs X W Z CL ow0 Hb rest b) : SimSs X W Z CL ow0 Hb (st :: rest) (wSeq a b) := by
  intro S ρ σ H ow E D r w o
  refine PSsat.of (pss_cons PSat.ps PSsat.ps) ?_
  exact h1 S ρ σ H ow _ _ r w (o.with fun ρ' σ' H' ow' q r' => h2 S ρ' σ' H' ow' E D r' q o)
theorem sim_bone {st : Stmt} {a : WS} (h1 : SimS X W Z CL ow0 Hb st a) : SimSs X W Z CL ow0 Hb [st] a :=
  fun S ρ σ H ow E D r w o => PSsat.of (pss_one PSat.ps) (h1 S ρ σ H ow E D r w o)
theorem sim_pass {pos : Pos} : SimS X W Z CL ow0 Hb (.Pass pos) wSkip := fun S ρ σ H ow E D r w o => PSat.of ps_pass (o.nx ρ σ H ow w r)
def wBrk : WS := fun E ρ => E.bk ρ
def wCnt : WS := fun E ρ => E.ct ρ
theorem sim_break {pos : Pos} : SimS X W Z CL ow0 Hb (.Break pos) wBrk := fun S ρ σ H ow E D r w o => PSat.of ps_break (o.bk ρ σ H ow w r)
theorem sim_continue {pos : Pos} : SimS X W Z CL ow0 Hb (.Continue pos) wCnt := fun S ρ σ H ow E D r w o => PSat.of ps_continue (o.ct ρ σ H ow w r)
/-! ### return -/
theorem hid_less {a b : List Addr} {H : Hp} (h : ∀ x ∈ b, x ∈ a) : Le (hid a H) (hid b H) := fun x o q => by
  obtain ⟨m, q, t⟩ := hid_some q
  exact hid_of (fun z => m (h x z)) q t
def wRet (w : WE) : WS := fun E ρ => w ρ (fun y => match y.kp with
  | some d => E.rt (.d d)
  | none => False) (fun x => E.ex x ρ)
/-- a new list, handed back as such -/
def wRetO (w : WE) : WS := fun E ρ => w ρ (fun y => match y with
  | .own xs => E.rt (.own xs)
  | _ => False) (fun x => E.ex x ρ)
/-- the list of a slot, handed back -/
def wRetL (i : Nat) : WS := fun E ρ => match ρ[i]? with
  | some (some (.own xs)) => E.rt (.own xs)
  | _ => False
theorem sim_ret {e : Expr} {we : WE} {pos : Pos} (h : SimE X W Z CL ow0 Hb e we) : SimS X W Z CL ow0 Hb (.Return (some e) pos) (wRet we) := by
  intro S ρ σ H ow E D r w o
  refine PSat.of (ps_ret PEat.pe) (h S ρ σ H ow _ _ _ r w (fun y v H' p e z q => ?_) (o.bd r))
  split at p
  · rename_i d ed
    refine o.rt _ v H' p (r.sb.trans e) z ?_
    exact Dt.mono (hid_less r.sub) (q.kp ed)
  · exact p.elim
theorem sim_retO {e : Expr} {we : WE} {pos : Pos} (h : SimE X W Z CL ow0 Hb e we) : SimS X W Z CL ow0 Hb (.Return (some e) pos) (wRetO we) := by
  intro S ρ σ H ow E D r w o
  refine PSat.of (ps_ret PEat.pe) (h S ρ σ H ow _ _ _ r w (fun y v H' p e z q => ?_) (o.bd r))
  split at p
  · rename_i xs
    refine o.rt _ v H' p (r.sb.trans e) z ?_
    obtain ⟨p, vs, rfl, h0, n, hp, ha⟩ := q
    refine ⟨p, vs, rfl, r.sb.free (fun z => n (r.gr.fpo p z)) h0, fun m => n (r.sub p m), hp, DtAll.mono (hid_less fun a z => ?_) ha⟩
    rcases List.mem_cons.mp z with rfl | z
    · exact List.mem_cons_self
    · exact List.mem_cons_of_mem _ (r.sub a z)
  · exact p.elim
theorem sim_retL (i : Nat) {x : Str} {pos pos' : Pos} (g0 : Gr Z ow0 Hb) (hN : X.N[i]? = some x := by rfl) (hv : Vis X.env.scope x := by first | exact Or.inl rfl | exact Or.inr (Or.inl rfl) | exact Or.inr (Or.inr rfl)) (hd : (x == ("__debug__" : Str)) = false := by decide)
    (hcd : (x == ("__classdict__" : Str)) = false := by decide) : SimS X W Z CL ow0 Hb (.Return (some (.Name x pos)) pos') (wRetL i) := by
  intro S ρ σ H ow E D r w o
  unfold wRetL at w
  split at w
  · rename_i xs hy
    obtain ⟨v, h1, p, vs, rfl, h0, n, nz, hp, ha⟩ := r.val i _ hy
    refine PSat.of (ps_ret (pe_var hN hv hd hcd)) ⟨_, h1, o.rt _ _ H w r.sb r.gr.ext ?_⟩
    refine ⟨p, vs, rfl, h0, g0.no h0, hp, DtAll.mono (hid_less fun a z => ?_) ha⟩
    rcases List.mem_cons.mp z with rfl | z
    · exact n
    · exact r.sub a z
  · exact w.elim
def wRetN : WS := fun E _ => E.rt (.d .none)
theorem sim_retN {pos : Pos} : SimS X W Z CL ow0 Hb (.Return none pos) wRetN := fun S ρ σ H ow E D r w o => PSat.of ps_retN (o.rt _ _ H w r.sb r.gr.ext .non)
/-! ### if, expressions -/
def wIfS (wt : WT) (a b : WS) : WS := fun E ρ => wt ρ (fun c => if c = true then a E ρ else b E ρ) (fun x => E.ex x ρ)
theorem sim_if {c : Expr} {a b : List Stmt} {wt : WT} {wa wb : WS} {pos : Pos} (hc : SimT X W Z CL ow0 Hb c wt) (ha : SimSs X W Z CL ow0 Hb a wa) (hb : SimSs X W Z CL ow0 Hb b wb) : SimS X W Z CL ow0 Hb (.If c a b pos) (wIfS wt wa wb) := by
  intro S ρ σ H ow E D r w o
  refine PSat.of (ps_if PTat.pt PSsat.ps PSsat.ps) (hc S ρ σ H ow _ _ _ r w (fun k H' p e z => ?_) (o.bd r))
  cases k with
  | true => exact ha S ρ σ H' ow E D (r.step e z) p o
  | false => exact hb S ρ σ H' ow E D (r.step e z) p o
def wDo (w : WE) : WS := fun E ρ => w ρ (fun _ => E.nx ρ) (fun x => E.ex x ρ)
theorem sim_do {e : Expr} {we : WE} {pos : Pos} (h : SimE X W Z CL ow0 Hb e we) (hs : swapsWith e none pos.line X.env = pure false := by rfl) : SimS X W Z CL ow0 Hb (.Expr e pos) (wDo we) := by
  intro S ρ σ H ow E D r w o
  exact PSat.of (ps_expr PEat.pe hs) (h S ρ σ H ow _ _ _ r w (fun y v H' p e z q => o.nx ρ σ H' ow p (r.step e z)) (o.bd r))
/-! ### stores -/
/-- as a slot holds it -/
def slv : Val → Option Val
  | .bor _ => none
  | y => some y
theorem Rel.set {S : Hp} {ρ : Ev} {σ : L2.St} {H : Hp} {ow : List Addr} {i : Nat} {v : V} {y : Val} (r : Rel CL Z X.K ow0 Hb S ρ σ H ow) {H1 : Hp} (e : SameBut (fp Z) H H1) (z : RZ Z H1) (h : RV CL Z X.K ow H H1 v y) (hy : slv y = some y) :
    ∃ ow', Rel CL Z X.K ow0 Hb S (ρ.set i (some y)) (σ.set i (some v)) H1 ow' := by
  have hl : (σ.set i (some v)).length = (ρ.set i (some y)).length := by simp [r.len]
  have r1 := r.step e z
  have old : ∀ (j : Nat) (w : Val), j ≠ i → (ρ.set i (some y))[j]? = some (some w) → ρ[j]? = some (some w) := fun j w n q => by rwa [List.getElem?_set_ne (Ne.symm n)] at q
  have at_i : ∀ (w : Val), (ρ.set i (some y))[i]? = some (some w) → w = y ∧ i < σ.length := fun w q => by
    by_cases hi : i < ρ.length
    · rw [List.getElem?_set_self hi] at q
      exact ⟨(Option.some.inj (Option.some.inj q)).symm, by rw [r.len]; exact hi⟩
    · rw [List.getElem?_eq_none (by simpa using hi)] at q
      cases q
  cases y with
  | bor xs => cases hy
  | own xs =>
    obtain ⟨p, vs, rfl, h0, n, hp, ha⟩ := h
    have hb : New Hb p := r.sb.free (fun q => n (r.gr.fpo p q)) h0
    have grow : Le (hid ow H) (hid (p :: ow) H1) := hid_mono e r.gr.fpo fun a m => (List.mem_cons.mp m).elim (fun q => .inr (q ▸ h0)) .inl
    refine ⟨p :: ow, ⟨z, fun a m => List.mem_cons_of_mem _ (r.gr.fpo a m), fun a m => ?_⟩, hl, r1.sb, fun a m => List.mem_cons_of_mem _ (r.sub a m), r.mark.trans grow, fun j w q => ?_, fun j k as bs q nj q1 q2 s1 s2 => ?_⟩
    · rcases List.mem_cons.mp m with rfl | m
      · exact ⟨_, nt_lst, hp⟩
      · exact r1.gr.isS a m
    · by_cases hj : j = i
      · subst hj
        obtain ⟨rfl, hi⟩ := at_i w q
        exact ⟨.ref p, by rw [List.getElem?_set_self hi], p, vs, rfl, hb, List.mem_cons_self, fun q => n (r.gr.fpo p q), hp, ha⟩
      · obtain ⟨u, u1, u2⟩ := r.val j w (old j w hj q)
        refine ⟨u, by rw [List.getElem?_set_ne (Ne.symm hj)]; exact u1, ?_⟩
        cases w with
        | d x => exact Dt.mono grow u2
        | own as =>
          obtain ⟨t, ts, rfl, t0, t1, t2, t3, t4⟩ := u2
          exact ⟨t, ts, rfl, t0, List.mem_cons_of_mem _ t1, t2, e t _ t2 nt_lst t3, DtAll.mono grow t4⟩
        | bor as => exact u2
        | bag => exact u2
        | fn f φ => exact u2
    · have fresh : ∀ (j : Nat) (as : List D), j ≠ i → ρ[j]? = some (some (.own as)) → σ[j]? = some (some (V.ref p)) → False := fun j as nj q1 s1 => by
        obtain ⟨u, u1, t, ts, rfl, t0, t1, t2, t3, t4⟩ := r.val j _ q1
        rw [s1] at u1
        cases u1
        exact h0 _ nt_lst t3
      by_cases hj : j = i
      · subst hj
        have hk : k ≠ j := Ne.symm nj
        rw [List.getElem?_set_self (at_i _ q1).2] at s1
        cases s1
        rw [List.getElem?_set_ne (Ne.symm hk)] at s2
        exact fresh k bs hk (old k _ hk q2) s2
      · by_cases hk : k = i
        · subst hk
          rw [List.getElem?_set_self (at_i _ q2).2] at s2
          cases s2
          rw [List.getElem?_set_ne (Ne.symm hj)] at s1
          exact fresh j as hj (old j _ hj q1) s1
        · rw [List.getElem?_set_ne (Ne.symm hj)] at s1
          rw [List.getElem?_set_ne (Ne.symm hk)] at s2
          exact r.sep j k as bs q nj (old j _ hj q1) (old k _ hk q2) s1 s2
  | d x =>
    refine ⟨ow, r1.gr, hl, r1.sb, r1.sub, r1.mark, fun j w q => ?_, fun j k as bs q nj q1 q2 s1 s2 => ?_⟩
    · by_cases hj : j = i
      · subst hj
        obtain ⟨rfl, hi⟩ := at_i w q
        exact ⟨v, by rw [List.getElem?_set_self hi], h⟩
      · obtain ⟨u, u1, u2⟩ := r1.val j w (old j w hj q)
        exact ⟨u, by rw [List.getElem?_set_ne (Ne.symm hj)]; exact u1, u2⟩
    · by_cases hj : j = i
      · subst hj
        cases (at_i _ q1).1
      · by_cases hk : k = i
        · subst hk
          cases (at_i _ q2).1
        · rw [List.getElem?_set_ne (Ne.symm hj)] at s1
          rw [List.getElem?_set_ne (Ne.symm hk)] at s2
          exact r.sep j k as bs q nj (old j _ hj q1) (old k _ hk q2) s1 s2
  | bag =>
    refine ⟨ow, r1.gr, hl, r1.sb, r1.sub, r1.mark, fun j w q => ?_, fun j k as bs q nj q1 q2 s1 s2 => ?_⟩
    · by_cases hj : j = i
      · subst hj
        obtain ⟨rfl, hi⟩ := at_i w q
        exact ⟨v, by rw [List.getElem?_set_self hi], h⟩
      · obtain ⟨u, u1, u2⟩ := r1.val j w (old j w hj q)
        exact ⟨u, by rw [List.getElem?_set_ne (Ne.symm hj)]; exact u1, u2⟩
    · by_cases hj : j = i
      · subst hj
        cases (at_i _ q1).1
      · by_cases hk : k = i
        · subst hk
          cases (at_i _ q2).1
        · rw [List.getElem?_set_ne (Ne.symm hj)] at s1
          rw [List.getElem?_set_ne (Ne.symm hk)] at s2
          exact r.sep j k as bs q nj (old j _ hj q1) (old k _ hk q2) s1 s2
  | fn f φ =>
    refine ⟨ow, r1.gr, hl, r1.sb, r1.sub, r1.mark, fun j w q => ?_, fun j k as bs q nj q1 q2 s1 s2 => ?_⟩
    · by_cases hj : j = i
      · subst hj
        obtain ⟨rfl, hi⟩ := at_i w q
        exact ⟨v, by rw [List.getElem?_set_self hi], h⟩
      · obtain ⟨u, u1, u2⟩ := r1.val j w (old j w hj q)
        exact ⟨u, by rw [List.getElem?_set_ne (Ne.symm hj)]; exact u1, u2⟩
    · by_cases hj : j = i
      · subst hj
        cases (at_i _ q1).1
      · by_cases hk : k = i
        · subst hk
          cases (at_i _ q2).1
        · rw [List.getElem?_set_ne (Ne.symm hj)] at s1
          rw [List.getElem?_set_ne (Ne.symm hk)] at s2
          exact r.sep j k as bs q nj (old j _ hj q1) (old k _ hk q2) s1 s2
def wSet (i : Nat) (w : WE) : WS := fun E ρ => w ρ (fun y => match slv y with
  | some y => E.nx (ρ.set i (some y))
  | none => False) (fun x => E.ex x ρ)
theorem slv_eq {y z : Val} (h : slv y = some z) : z = y := by cases y <;> first | (cases h; rfl) | cases h
theorem sim_set (i : Nat) {x : Str} {e : Expr} {we : WE} {pos pos' : Pos} (h : SimE X W Z CL ow0 Hb e we) (hN : X.N.Nodup) (hi : X.N[i]? = some x := by rfl) (hx : Loc X.env.scope x := by first | exact Or.inl rfl | exact Or.inr rfl)
    (hs : swapsWith e (some (.Name x pos')) pos.line X.env = pure false := by rfl) (hf : X.fn x = true ∨ X.env.scope.names.lookup x = some .local := by first | exact .inl rfl | exact .inr rfl | assumption) :
    SimS X W Z CL ow0 Hb (.Assign [.Name x pos'] e pos) (wSet i we) := by
  intro S ρ σ H ow E D r w o
  refine PSat.of (ps_set hN hi hx PEat.pe hs hf) (h S ρ σ H ow _ _ _ r w (fun y v H' p e z q => ?_) (o.bd r))
  split at p
  · rename_i t et
    have et' := slv_eq et
    subst et'
    obtain ⟨ow', r'⟩ := r.set (i := i) e z q et
    exact o.nx _ _ H' ow' p r'
  · exact p.elim
end
end Pd

/-! Pd7: targets, what is walked, for, list comprehensions over data. -/
namespace Pd
open PySem PySem.Spec PyProof.Rows L2

/-! ### targets -/
abbrev WB := Ev → D → (Ev → Prop) → Prop
abbrev WBs := Ev → List D → (Ev → Prop) → Prop
def PGat (X : Cx) (tg : Expr) : TG := fun v σ H Q => ∀ pins s u, Inv X pins σ H s → RelV v u → wpAny (model X.prog X.w) X.A (assign tg X.env u) (fun _ s' => ∃ σ' H', Inv X pins σ' H' s' ∧ Q σ' H') X.xe s
theorem PGat.pg {X : Cx} {tg : Expr} : PG X tg (PGat X tg) := ⟨fun pins s σ H v u Q I r h => h pins s u I r⟩
theorem PGat.of {X : Cx} {tg : Expr} {t : TG} (h : PG X tg t) {v : V} {σ : L2.St} {H : Hp} {Q : L2.St → Hp → Prop} (q : t v σ H Q) : PGat X tg v σ H Q := fun pins s u I r => h.run pins s σ H v u Q I r q
def PGsat (X : Cx) (ts : List Expr) : TGs := fun vs σ H Q => ∀ pins s us, Inv X pins σ H s → Vals vs us → wpAny (model X.prog X.w) X.A (assignInOrder ((assignEach ts X.env).map (·.2)) us) (fun _ s' => ∃ σ' H', Inv X pins σ' H' s' ∧ Q σ' H') X.xe s
theorem PGsat.pg {X : Cx} {ts : List Expr} : PGs X ts (PGsat X ts) := ⟨fun pins s σ H vs us Q I r h => h pins s us I r⟩
theorem PGsat.of {X : Cx} {ts : List Expr} {t : TGs} (h : PGs X ts t) {vs : List V} {σ : L2.St} {H : Hp} {Q : L2.St → Hp → Prop} (q : t vs σ H Q) : PGsat X ts vs σ H Q := fun pins s us I r => h.run pins s σ H vs us Q I r q
/-- the slots that are not told stay -/
def Only (is : List Nat) (σ σ' : L2.St) : Prop := σ'.length = σ.length ∧ ∀ j, j ∉ is → σ'[j]? = σ[j]?
theorem Only.refl (is : List Nat) (σ : L2.St) : Only is σ σ := ⟨rfl, fun _ _ => rfl⟩
theorem Only.trans {is : List Nat} {a b c : L2.St} (x : Only is a b) (y : Only is b c) : Only is a c := ⟨y.1.trans x.1, fun j h => (y.2 j h).trans (x.2 j h)⟩
theorem Only.mono {is js : List Nat} {a b : L2.St} (x : Only is a b) (h : ∀ i ∈ is, i ∈ js) : Only js a b := ⟨x.1, fun j n => x.2 j fun m => n (h j m)⟩
section
variable (X : Cx) (Z : Ext) (CL : Calls) (ow0 : List Addr) (Hb : Hp)
def SimB (tg : Expr) (b : WB) (is : List Nat) : Prop := ∀ (S : Hp) (ρ : Ev) (σ : L2.St) (H : Hp) (ow : List Addr) (d : D) (v : V) (k : Ev → Prop) (Q : L2.St → Hp → Prop),
  Rel CL Z X.K ow0 Hb S ρ σ H ow → Dt X.K (hid ow H) v d → b ρ d k → (∀ ρ' σ', k ρ' → Rel CL Z X.K ow0 Hb S ρ' σ' H ow → Only is σ σ' → Q σ' H) → PGat X tg v σ H Q
def SimBs (ts : List Expr) (b : WBs) (is : List Nat) : Prop := ∀ (S : Hp) (ρ : Ev) (σ : L2.St) (H : Hp) (ow : List Addr) (ds : List D) (vs : List V) (k : Ev → Prop) (Q : L2.St → Hp → Prop),
  Rel CL Z X.K ow0 Hb S ρ σ H ow → DtAll X.K (hid ow H) vs ds → b ρ ds k → (∀ ρ' σ', k ρ' → Rel CL Z X.K ow0 Hb S ρ' σ' H ow → Only is σ σ' → Q σ' H) → PGsat X ts vs σ H Q
end
section
variable {X : Cx} {W : WX} {Z : Ext} {CL : Calls} {ow0 : List Addr} {Hb : Hp}
theorem Rel.setD {S : Hp} {ρ : Ev} {σ : L2.St} {H : Hp} {ow : List Addr} {i : Nat} {v : V} {x : D} (r : Rel CL Z X.K ow0 Hb S ρ σ H ow) (h : Dt X.K (hid ow H) v x) : Rel CL Z X.K ow0 Hb S (ρ.set i (some (.d x))) (σ.set i (some v)) H ow := by
  refine ⟨r.gr, by simp [r.len], r.sb, r.sub, r.mark, fun j w q => ?_, fun j k as bs q nj q1 q2 s1 s2 => ?_⟩
  · by_cases hj : j = i
    · subst hj
      by_cases hi : j < ρ.length
      · rw [List.getElem?_set_self hi] at q
        cases q
        exact ⟨v, by rw [List.getElem?_set_self (by rw [r.len]; exact hi)], h⟩
      · rw [List.getElem?_eq_none (by simpa using hi)] at q
        cases q
    · rw [List.getElem?_set_ne (Ne.symm hj)] at q
      obtain ⟨u, u1, u2⟩ := r.val j w q
      exact ⟨u, by rw [List.getElem?_set_ne (Ne.symm hj)]; exact u1, u2⟩
  · have no : ∀ (j : Nat) (as : List D), (ρ.set i (some (.d x)))[j]? = some (some (.own as)) → j ≠ i ∧ ρ[j]? = some (some (.own as)) := fun j as q => by
      by_cases hj : j = i
      · subst hj
        by_cases hi : j < ρ.length
        · rw [List.getElem?_set_self hi] at q
          cases q
        · rw [List.getElem?_eq_none (by simpa using hi)] at q
          cases q
      · rw [List.getElem?_set_ne (Ne.symm hj)] at q
        exact ⟨hj, q⟩
    obtain ⟨hj, q1⟩ := no j as q1
    obtain ⟨hk, q2⟩ := no k bs q2
    rw [List.getElem?_set_ne (Ne.symm hj)] at s1
    rw [List.getElem?_set_ne (Ne.symm hk)] at s2
    exact r.sep j k as bs q nj q1 q2 s1 s2
def bName (i : Nat) : WB := fun ρ d k => k (ρ.set i (some (.d d)))
theorem sim_bname (i : Nat) {x : Str} {pos : Pos} (hN : X.N.Nodup) (hi : X.N[i]? = some x := by rfl) (hx : Loc X.env.scope x := by first | exact Or.inl rfl | exact Or.inr rfl)
    (hf : X.fn x = true ∨ X.env.scope.names.lookup x = some .local := by first | exact .inl rfl | exact .inr rfl | assumption) : SimB X Z CL ow0 Hb (.Name x pos) (bName i) [i] := by
  intro S ρ σ H ow d v k Q r h w g
  refine PGat.of (pg_name hN hi hx hf) (g _ _ w (r.setD h) ⟨by simp, fun j n => ?_⟩)
  rw [List.getElem?_set_ne (fun e => n (by simp [e]))]
def bNil : WBs := fun ρ ds k => ds = [] ∧ k ρ
def bCons (b : WB) (bs : WBs) : WBs := fun ρ ds k => match ds with
  | d :: r => b ρ d fun ρ' => bs ρ' r k
  | [] => False
theorem sim_btnil : SimBs X Z CL ow0 Hb [] bNil [] := by
  intro S ρ σ H ow ds vs k Q r h w g
  obtain ⟨rfl, w⟩ := w
  cases h
  exact PGsat.of pgs_nil ⟨rfl, g _ _ w r (.refl _ _)⟩
theorem sim_btcons {e : Expr} {es : List Expr} {b : WB} {bs : WBs} {is js : List Nat} (h1 : SimB X Z CL ow0 Hb e b is) (h2 : SimBs X Z CL ow0 Hb es bs js)
    (hs : (assignEach (e :: es) X.env).map (·.2) = assign e X.env :: (assignEach es X.env).map (·.2) := by rfl) : SimBs X Z CL ow0 Hb (e :: es) (bCons b bs) (is ++ js) := by
  intro S ρ σ H ow ds vs k Q r h w g
  cases h with
  | nil => exact (w : False).elim
  | cons hd ht =>
    refine PGsat.of (pgs_cons PGat.pg PGsat.pg hs) ⟨_, _, rfl, ?_⟩
    refine h1 S ρ σ H ow _ _ _ _ r hd w fun ρ' σ' w' r' o' => ?_
    refine h2 S ρ' σ' H ow _ _ _ _ r' ht w' fun ρ2 σ2 w2 r2 o2 => ?_
    exact g ρ2 σ2 w2 r2 ((o'.mono fun i m => List.mem_append_left _ m).trans (o2.mono fun i m => List.mem_append_right _ m))
/-- a, b, .. of a tuple -/
def bTup (bs : WBs) : WB := fun ρ d k => match d with
  | .tuple ds => bs ρ ds k
  | _ => False
theorem sim_btup {es : List Expr} {kk : Nat} {pos : Pos} {bs : WBs} {is : List Nat} {n : Nat} (hc : X.calm = true) (h : SimBs X Z CL ow0 Hb es bs is) (hlen : ∀ ρ ds k, bs ρ ds k → ds.length = n)
    (hn : (assignEach es X.env).length = n := by rfl) (hst : (assignEach es X.env).findIdx? (·.1) = none := by rfl) : SimB X Z CL ow0 Hb (.Tuple es kk pos) (bTup bs) is := by
  intro S ρ σ H ow d v k Q r h' w g
  cases d with
  | tuple ds =>
    cases h' with
    | tup h1 h2 =>
      exact PGat.of (pg_tup hc PGsat.pg hn hst) ⟨_, _, rfl, hid_le.sqt h1, by rw [h2.length]; exact hlen _ _ _ w, h S ρ σ H ow _ _ _ _ r h2 w g⟩
  | _ => exact (w : False).elim
theorem bNil_len : ∀ (ρ : Ev) (ds : List D) (k : Ev → Prop), bNil ρ ds k → ds.length = 0 := fun _ _ _ h => by rw [h.1]; rfl
theorem bCons_len {b : WB} {bs : WBs} {n : Nat} (hb : ∀ ρ d k, b ρ d k → ∃ ρ', k ρ') (h : ∀ ρ ds k, bs ρ ds k → ds.length = n) : ∀ (ρ : Ev) (ds : List D) (k : Ev → Prop), bCons b bs ρ ds k → ds.length = n + 1 := fun ρ ds k w => by
  cases ds with
  | nil => exact (w : False).elim
  | cons d r =>
    obtain ⟨ρ', w'⟩ := hb _ _ _ w
    simp [h _ _ _ w']
theorem bName_has {i : Nat} : ∀ (ρ : Ev) (d : D) (k : Ev → Prop), bName i ρ d k → ∃ ρ', k ρ' := fun _ _ _ h => ⟨_, h⟩
theorem bNil_has : ∀ (ρ : Ev) (ds : List D) (k : Ev → Prop), bNil ρ ds k → ∃ ρ', k ρ' := fun _ _ _ h => ⟨_, h.2⟩
theorem bCons_has {b : WB} {bs : WBs} (hb : ∀ ρ d k, b ρ d k → ∃ ρ', k ρ') (h : ∀ ρ ds k, bs ρ ds k → ∃ ρ', k ρ') : ∀ (ρ : Ev) (ds : List D) (k : Ev → Prop), bCons b bs ρ ds k → ∃ ρ', k ρ' := fun ρ ds k w => by
  cases ds with
  | nil => exact (w : False).elim
  | cons d r =>
    obtain ⟨ρ', w'⟩ := hb _ _ _ w
    exact h _ _ _ w'
theorem bTup_has {bs : WBs} (h : ∀ ρ ds k, bs ρ ds k → ∃ ρ', k ρ') : ∀ (ρ : Ev) (d : D) (k : Ev → Prop), bTup bs ρ d k → ∃ ρ', k ρ' := fun ρ d k w => by
  cases d with
  | tuple ds => exact h _ _ _ w
  | _ => exact (w : False).elim

/-! ### what is walked -/
/-- J yields the data ds while S1 stands -/
structure ItD (K : PySem.W.Frag) (S1 : Hp) (J : It) (ds : List D) : Prop where
  go : ∀ i H, Le S1 H → i < ds.length → J.go i H
  stop : ∀ H, Le S1 H → J.stop ds.length H
  yld : ∀ (i : Nat) (H : Hp) (x : V) (H' : Hp) (ow : List Addr) (d : D), (∀ a ∈ ow, ∃ o, NT o ∧ H a = some o) → Le S1 (hid ow H) → ds[i]? = some d → J.yld i H x H' → Le H H' ∧ Dt K (hid ow H') x d
abbrev WI := Ev → (List D → Prop) → (Xn → Prop) → Prop
def PIat (X : Cx) (tg iter : Expr) : TI := fun σ H R => ∀ pins s, Inv X pins σ H s → wpAny (model X.prog X.w) X.A (eval iter X.env) (fun v s1 => wpAny (model X.prog X.w) X.A (pyIter v) (PIE X pins σ tg R) X.xe s1) X.xe s
def Held (X : Cx) (H : Hp) : Prop := ∃ h, HOk X.prog X.w H h
theorem PIat.pi {tg iter : Expr} : PI X tg iter (fun σ H R => PIat X tg iter σ H fun J H' => Held X H' → R J H') := by
  refine ⟨fun pins s σ H R I h => ?_⟩
  refine thn (h pins s I) fun v s1 h1 => thn h1 fun itv s2 h2 => ?_
  obtain ⟨it, fp, tn, J, H', e, I2, T, st, f, q⟩ := h2
  exact ⟨it, fp, tn, J, H', e, I2, T, st, f, q ⟨_, I2.hok⟩⟩
theorem PIat.of {tg iter : Expr} {t : TI} (h : PI X tg iter t) {σ : L2.St} {H : Hp} {R : It → Hp → Prop} (q : t σ H R) : PIat X tg iter σ H R := fun pins s I => h.run pins s σ H R I q
def SimI (X : Cx) (W : WX) (Z : Ext) (CL : Calls) (ow0 : List Addr) (Hb : Hp) (tg iter : Expr) (w : WI) : Prop := ∀ (S : Hp) (ρ : Ev) (σ : L2.St) (H : Hp) (ow : List Addr) (P : List D → Prop) (Ex : Xn → Prop) (R : It → Hp → Prop),
  Rel CL Z X.K ow0 Hb S ρ σ H ow → w ρ P Ex → (∀ ds J H', P ds → SameBut (fp Z) H H' → RZ Z H' → ItD X.K (hid ow H') J ds → (Held X H' → ds.length ≤ sizeLine) → R J H') → Bd Z X.K ow X.mg W σ H Ex → PIat X tg iter σ H R
theorem sqt_len {H : Hp} {a : Addr} {xs : List V} (h : SqT X.K H a xs) (hh : Held X H) : xs.length ≤ sizeLine := by
  obtain ⟨hp, ok⟩ := hh
  rcases h with h | ⟨o, its, n, _, _, _, hz, hv⟩
  · obtain ⟨z, _⟩ := h.ok ok
    exact z
  · have := hv.length
    simp at this
    omega
theorem lst_len {H : Hp} {a : Addr} {xs : List V} (h : H a = some (.lst xs)) (hh : Held X H) : xs.length ≤ sizeLine := by
  obtain ⟨hp, ok⟩ := hh
  obtain ⟨z, _⟩ := ok a _ h
  exact z
theorem itD_tup {K : PySem.W.Frag} {S1 : Hp} {a : Addr} {vs : List V} {ds : List D} (h : SqT K S1 a vs) (ha : DtAll K S1 vs ds) : ItD K S1 (Itt K a) ds where
  go := fun i H e hi => ⟨vs, vs[i]'(by rw [ha.length]; exact hi), e.sqt h, by simp [ha.length, hi]⟩
  stop := fun H e => ⟨vs, e.sqt h, by rw [ha.length]; exact Nat.le_refl _⟩
  yld := fun i H x H' ow d _ e hd y => by
    obtain ⟨rfl, y⟩ := y
    have hx := y vs ((e.trans hid_le).sqt h)
    obtain ⟨d', h1, h2⟩ := ha.get' hx
    rw [hd] at h1
    cases h1
    exact ⟨.refl _, Dt.mono e h2⟩
theorem itD_lst {K : PySem.W.Frag} {S1 : Hp} {a : Addr} {vs : List V} {ds : List D} (h : S1 a = some (.lst vs)) (ha : DtAll K S1 vs ds) : ItD K S1 (Itl K a) ds where
  go := fun i H e hi => ⟨vs, vs[i]'(by rw [ha.length]; exact hi), .inl (.of (e _ _ h)), by simp [ha.length, hi]⟩
  stop := fun H e => ⟨vs, .inl (.of (e _ _ h)), by rw [ha.length]; exact Nat.le_refl _⟩
  yld := fun i H x H' ow d _ e hd y => by
    obtain ⟨rfl, y⟩ := y
    have hx := y vs (.inl (.of ((e.trans hid_le) _ _ h)))
    obtain ⟨d', h1, h2⟩ := ha.get' hx
    rw [hd] at h1
    cases h1
    exact ⟨.refl _, Dt.mono e h2⟩
def wIt (w : WE) : WI := fun ρ P Ex => w ρ (fun y => match y.kp with
  | some (.tuple ds) => P ds
  | _ => False) Ex
def wItL (w : WE) : WI := fun ρ P Ex => w ρ (fun y => match y.kp with
  | some (.list ds) => P ds
  | _ => False) Ex
/-- over a tuple -/
theorem sim_it {tg e : Expr} {we : WE} (h : SimE X W Z CL ow0 Hb e we) : SimI X W Z CL ow0 Hb tg e (wIt we) := by
  intro S ρ σ H ow P Ex R r w g b
  refine PIat.of (pi_tup PEat.pe) (h S ρ σ H ow _ Ex _ r w (fun y v H' p e z q => ?_) b)
  split at p
  · rename_i ds ed
    cases q.kp ed with
    | tup h1 h2 => exact ⟨_, rfl, ⟨_, hid_le.sqt h1⟩, g ds _ H' p e z (itD_tup h1 h2) fun hh => by rw [← h2.length]; exact sqt_len (hid_le.sqt h1) hh⟩
  · exact p.elim
/-- over a list that is not changed meanwhile -/
theorem sim_itL {tg e : Expr} {we : WE} (h : SimE X W Z CL ow0 Hb e we) : SimI X W Z CL ow0 Hb tg e (wItL we) := by
  intro S ρ σ H ow P Ex R r w g b
  refine PIat.of (pi_list PEat.pe) (h S ρ σ H ow _ Ex _ r w (fun y v H' p e z q => ?_) b)
  split at p
  · rename_i ds ed
    cases q.kp ed with
    | lst h1 h2 => exact ⟨_, rfl, ⟨_, .inl (.of (hid_le _ _ h1))⟩, g ds _ H' p e z (itD_lst h1 h2) fun hh => by rw [← h2.length]; exact lst_len (hid_le _ _ h1) hh⟩
  · exact p.elim
/-- lo, lo + 1, .. so many -/
def countD (lo : Int) (n : Nat) : List D := (List.range n).map fun i => .int (lo + (i : Nat))
theorem countD_len (lo : Int) (n : Nat) : (countD lo n).length = n := by simp [countD]
theorem itD_rng {K : PySem.W.Frag} {S1 : Hp} {lo : Int} {n : Nat} : ItD K S1 (Itr lo n) (countD lo n) where
  go := fun i H e hi => by rw [countD_len] at hi; exact hi
  stop := fun H e => by rw [countD_len]; exact Nat.le_refl _
  yld := fun i H x H' ow d _ e hd y => by
    obtain ⟨rfl, rfl⟩ := y
    have hi : i < n := by
      have := (List.getElem?_eq_some_iff.mp hd).1
      rwa [countD_len] at this
    unfold countD at hd
    rw [List.getElem?_map, List.getElem?_range hi] at hd
    cases hd
    exact ⟨.refl _, .int _⟩
/-- within the bounds that a range has -/
def rgOk (i : Int) : Prop := -(2 ^ 62) ≤ i ∧ i < 2 ^ 62
def wRng1 (w : WA) : WI := fun ρ P Ex => w ρ (fun ys => match ys with
  | [y] => match y.rd with
    | some (.int j) => rgOk j ∧ j.toNat ≤ sizeLine ∧ P (countD 0 j.toNat)
    | _ => False
  | _ => False) Ex
def wRng2 (w : WA) : WI := fun ρ P Ex => w ρ (fun ys => match ys with
  | [x, y] => match x.rd, y.rd with
    | some (.int i), some (.int j) => rgOk i ∧ rgOk j ∧ (j - i).toNat ≤ sizeLine ∧ P (countD i (j - i).toNat)
    | _, _ => False
  | _ => False) Ex
theorem sim_rng1 {tg a : Expr} {wa : WA} {p pos : Pos} (hg : Gl X "range") (hm : X.mg "range" = none) (h : SimA X W Z CL ow0 Hb [a] wa) (hs : starEach [a] X.env = [(false, eval a X.env)] := by rfl) : SimI X W Z CL ow0 Hb tg (.Call (.Name "range" p) [a] [] pos) (wRng1 wa) := by
  intro S ρ σ H ow P Ex R r w g b
  refine PIat.of (pi_range1 hg hm PAat.pa hs) (h S ρ σ H ow _ Ex _ r w (fun ys vs H' p e z q => ?_) b)
  split at p
  · split at p
    · rename_i y j ej
      cases q with
      | cons q1 q2 =>
        cases q2
        exact ⟨j, by rw [q1.int ej], p.1.1, p.1.2, g _ _ H' p.2.2 e z itD_rng fun _ => by rw [countD_len]; exact p.2.1⟩
    · exact p.elim
  · exact p.elim
theorem sim_rng2 {tg a c : Expr} {wa : WA} {p pos : Pos} (hg : Gl X "range") (hm : X.mg "range" = none) (h : SimA X W Z CL ow0 Hb [a, c] wa) (hs : starEach [a, c] X.env = [(false, eval a X.env), (false, eval c X.env)] := by rfl) (hs2 : starEach [c] X.env = [(false, eval c X.env)] := by rfl) :
    SimI X W Z CL ow0 Hb tg (.Call (.Name "range" p) [a, c] [] pos) (wRng2 wa) := by
  intro S ρ σ H ow P Ex R r w g b
  refine PIat.of (pi_range2 hg hm PAat.pa hs hs2) (h S ρ σ H ow _ Ex _ r w (fun ys vs H' p e z q => ?_) b)
  split at p
  · split at p
    · rename_i x y i j ei ej
      cases q with
      | cons q1 q2 =>
        cases q2 with
        | cons q2 q3 =>
          cases q3
          exact ⟨i, j, by rw [q1.int ei, q2.int ej], ⟨p.1.1, p.1.2, p.2.1.1, p.2.1.2⟩, g _ _ H' p.2.2.2 e z itD_rng fun _ => by rw [countD_len]; exact p.2.2.1⟩
    · exact p.elim
  · exact p.elim
/-- a text, sign by sign -/
def signsD (x : Str) : List D := x.cps.toList.map fun c => .str ⟨#[c]⟩
def wItS (w : WE) : WI := fun ρ P Ex => w ρ (fun y => match y.rd with
  | some (.str x) => x.length ≤ sizeLine ∧ P (signsD x)
  | _ => False) Ex
theorem itD_str {K : PySem.W.Frag} {S1 : Hp} {x : Str} : ItD K S1 (Its x) (signsD x) where
  go := fun i H e hi => by
    show i < x.cps.size
    simpa [signsD] using hi
  stop := fun H e => by simp [signsD, Its]
  yld := fun i H v H' ow d _ e hd y => by
    obtain ⟨rfl, c, h1, rfl⟩ := y
    unfold signsD at hd
    rw [List.getElem?_map, Array.getElem?_toList, h1] at hd
    cases hd
    exact ⟨.refl _, .str _⟩
theorem sim_itS {tg e : Expr} {we : WE} (h : SimE X W Z CL ow0 Hb e we) : SimI X W Z CL ow0 Hb tg e (wItS we) := by
  intro S ρ σ H ow P Ex R r w g b
  refine PIat.of (pi_str PEat.pe) (h S ρ σ H ow _ Ex _ r w (fun y v H' p e z q => ?_) b)
  split at p
  · rename_i x ed
    exact ⟨x, q.str ed, g _ _ H' p.2 e z itD_str fun _ => by simpa [signsD, Str.length] using p.1⟩
  · exact p.elim

/-! ### for -/
def forW (b : WB) (body : WS) (E : En) : List D → Ev → Prop
  | [], ρ => E.nx ρ
  | d :: ds, ρ => b ρ d fun ρ' => body { E with nx := forW b body E ds, ct := forW b body E ds, bk := E.nx } ρ'
def wFor (wi : WI) (b : WB) (body : WS) : WS := fun E ρ => wi ρ (fun ds => forW b body E ds ρ) (fun x => E.ex x ρ)
theorem Rel.remark {S S' : Hp} {ρ : Ev} {σ : L2.St} {H : Hp} {ow : List Addr} (r : Rel CL Z X.K ow0 Hb S ρ σ H ow) (h : Le S' (hid ow H)) : Rel CL Z X.K ow0 Hb S' ρ σ H ow := ⟨r.gr, r.len, r.sb, r.sub, h, r.val, r.sep⟩
theorem DOK.remark {S S' : Hp} {E : En} {D : L2.Ends} (o : DOK X W Z CL ow0 Hb S E D) (h : Le S S') : DOK X W Z CL ow0 Hb S' E D :=
  ⟨fun ρ σ H ow p r => o.nx ρ σ H ow p (r.remark (h.trans r.mark)), fun ρ σ H ow p r => o.bk ρ σ H ow p (r.remark (h.trans r.mark)), fun ρ σ H ow p r => o.ct ρ σ H ow p (r.remark (h.trans r.mark)), o.rt, fun x ρ σ H ow cls d p r => o.ex x ρ σ H ow cls d p (r.remark (h.trans r.mark))⟩
theorem sim_for {tg iter : Expr} {body : List Stmt} {wi : WI} {b : WB} {is : List Nat} {wb : WS} {pos : Pos} (hp : PassesOwn (model X.prog X.w) X.A X.env X.xe) (hc : X.calm = true) (hi : SimI X W Z CL ow0 Hb tg iter wi) (hg : SimB X Z CL ow0 Hb tg b is) (hb : SimSs X W Z CL ow0 Hb body wb)
    (hs : ∀ x, foldedSetIterable iter X.env x = pure x := by intro _; rfl) : SimS X W Z CL ow0 Hb (.For tg iter body [] pos) (wFor wi b wb) := by
  intro S ρ σ H ow E D r w o
  refine PSat.of (ps_for hp hc PIat.pi PGat.pg PSsat.ps hs) ?_
  refine hi S ρ σ H ow _ _ _ r w (fun ds J H1 p e z hJ _ => fun _ => ?_) (o.bd r)
  have r1 : Rel CL Z X.K ow0 Hb (hid ow H1) ρ σ H1 ow := (r.step e z).remark (.refl _)
  have o1 : DOK X W Z CL ow0 Hb (hid ow H1) E D := o.remark (r.step e z).mark
  refine ⟨fun i m σ H => m = ds.length - i ∧ i ≤ ds.length ∧ ∃ ρ ow2, forW b wb E (ds.drop i) ρ ∧ Rel CL Z X.K ow0 Hb (hid ow H1) ρ σ H ow2, ⟨ds.length, by simp, Nat.zero_le _, ρ, ow, p, r1⟩, ?_⟩
  rintro i m σ2 H2 ⟨rfl, hi2, ρ2, ow2, p2, r2⟩
  have le : Le (hid ow H1) H2 := r2.mark.trans hid_le
  by_cases hlt : i < ds.length
  · refine .inr ⟨hJ.go i H2 le hlt, fun σ' H' => ∃ ρ ow2, forW b wb E (ds.drop (i + 1)) ρ ∧ Rel CL Z X.K ow0 Hb (hid ow H1) ρ σ' H' ow2, fun σ' H' ⟨ρ', ow', q⟩ => ⟨ds.length - (i + 1), by omega, rfl, hlt, ρ', ow', q⟩, fun x H' y => ?_⟩
    have hd : ds[i]? = some ds[i] := by simp [hlt]
    obtain ⟨l1, l2⟩ := hJ.yld i H2 x H' ow2 _ r2.gr.isS r2.mark hd y
    rw [List.drop_eq_getElem_cons hlt] at p2
    have r3 := r2.step (.of_le l1) (r2.gr.ext.le l1)
    refine hg _ ρ2 σ2 H' ow2 _ _ _ _ r3 l2 p2 fun ρ3 σ3 p3 r4 _ => ?_
    refine hb _ ρ3 σ3 H' ow2 _ _ r4 p3 ⟨fun ρ4 σ4 H4 ow4 q4 r5 => ⟨ρ4, ow4, q4, r5⟩, fun ρ4 σ4 H4 ow4 q4 r5 => o1.nx ρ4 σ4 H4 ow4 q4 r5, fun ρ4 σ4 H4 ow4 q4 r5 => ⟨ρ4, ow4, q4, r5⟩, o1.rt, o1.ex⟩
  · have ei : i = ds.length := by omega
    subst ei
    rw [List.drop_length] at p2
    exact .inl ⟨hJ.stop H2 le, o1.nx ρ2 σ2 H2 ow2 p2 r2⟩

/-! ### list comprehensions -/
def wipeE (ρ : Ev) : List Nat → Ev
  | [] => ρ
  | v :: vs => (wipeE ρ vs).set v none
theorem wipeE_len (ρ : Ev) : ∀ vs : List Nat, (wipeE ρ vs).length = ρ.length
  | [] => rfl
  | v :: vs => by unfold wipeE; rw [List.length_set, wipeE_len ρ vs]
theorem wipeE_some {ρ : Ev} {i : Nat} {x : Val} : ∀ {vs : List Nat}, (wipeE ρ vs)[i]? = some (some x) → ρ[i]? = some (some x) ∧ i ∉ vs
  | [], h => ⟨h, by simp⟩
  | v :: vs, h => by
    unfold wipeE at h
    by_cases hi : v = i
    · subst hi
      by_cases hv : v < (wipeE ρ vs).length
      · rw [List.getElem?_set_self hv] at h; cases h
      · rw [List.getElem?_eq_none (by simpa using hv)] at h; cases h
    · rw [List.getElem?_set_ne hi] at h
      obtain ⟨h1, h2⟩ := wipeE_some h
      exact ⟨h1, by simp only [List.mem_cons, not_or]; exact ⟨fun e => hi e.symm, h2⟩⟩
theorem wipe_get {σ : L2.St} {i : Nat} : ∀ {vs : List Nat}, i ∉ vs → (wipe σ vs)[i]? = σ[i]?
  | [], _ => rfl
  | v :: vs, h => by
    unfold wipe
    simp only [List.mem_cons, not_or] at h
    rw [List.getElem?_set_ne (fun e => h.1 e.symm), wipe_get h.2]
theorem wipe_in {σ : L2.St} {i : Nat} : ∀ {vs : List Nat}, i ∈ vs → i < σ.length → (wipe σ vs)[i]? = some none
  | v :: vs, h, hl => by
    unfold wipe
    by_cases e : v = i
    · subst e
      rw [List.getElem?_set_self (by rw [wipe_length]; exact hl)]
    · rw [List.getElem?_set_ne e]
      exact wipe_in ((List.mem_cons.mp h).resolve_left fun z => e z.symm) hl
theorem Only.wipe {vs : List Nat} {a b : L2.St} (o : Only vs a b) : wipe b vs = wipe a vs := by
  apply List.ext_getElem?
  intro i
  by_cases h : i ∈ vs
  · by_cases hl : i < a.length
    · rw [wipe_in h hl, wipe_in h (by rw [o.1]; exact hl)]
    · rw [List.getElem?_eq_none (by rw [wipe_length, o.1]; omega), List.getElem?_eq_none (by rw [wipe_length]; omega)]
  · rw [wipe_get h, wipe_get h, o.2 i h]
theorem wipe_wipe (σ : L2.St) (vs : List Nat) : wipe (wipe σ vs) vs = wipe σ vs :=
  Only.wipe (vs := vs) ⟨wipe_length σ vs, fun j h => wipe_get h⟩
theorem Rel.wiped {S : Hp} {ρ : Ev} {σ : L2.St} {H : Hp} {ow : List Addr} (r : Rel CL Z X.K ow0 Hb S ρ σ H ow) (vs : List Nat) : Rel CL Z X.K ow0 Hb S (wipeE ρ vs) (wipe σ vs) H ow :=
  r.weak (by rw [wipe_length, wipeE_len, r.len]) fun i y h => by
    obtain ⟨h1, h2⟩ := wipeE_some h
    exact ⟨h1, wipe_get h2⟩
/-- the tests of a comprehension -/
def PTsat (X : Cx) (ifs : List Expr) : TT := fun σ H Q => ∀ pins s, Inv X pins σ H s → wpAny (model X.prog X.w) X.A (forIn ifs true fun c r => if r = true then do let ok ← isTrue c X.env (eval c X.env); pure (ForInStep.yield ok) else pure (ForInStep.yield r)) (TP X pins σ Q) X.xe s
theorem PTsat.pt {ifs : List Expr} : PTs X ifs (PTsat X ifs) := ⟨fun pins s σ H Q I h => h pins s I⟩
theorem PTsat.of {ifs : List Expr} {t : TT} (h : PTs X ifs t) {σ : L2.St} {H : Hp} {Q : Bool → Hp → Prop} (q : t σ H Q) : PTsat X ifs σ H Q := fun pins s I => h.run pins s σ H Q I q
def SimTs (X : Cx) (W : WX) (Z : Ext) (CL : Calls) (ow0 : List Addr) (Hb : Hp) (ifs : List Expr) (w : WT) : Prop := ∀ (S : Hp) (ρ : Ev) (σ : L2.St) (H : Hp) (ow : List Addr) (P : Bool → Prop) (Ex : Xn → Prop) (Q : Bool → Hp → Prop),
  Rel CL Z X.K ow0 Hb S ρ σ H ow → w ρ P Ex → GdT Z H P Q → Bd Z X.K ow X.mg W σ H Ex → PTsat X ifs σ H Q
def wYes : WT := fun _ P _ => P true
theorem sim_tsnil : SimTs X W Z CL ow0 Hb [] wYes := fun S ρ σ H ow P Ex Q r w g b => PTsat.of pts_nil (g true H w (.refl _ _) r.gr.ext)
theorem sim_tsone {c : Expr} {wc : WT} (h : SimT X W Z CL ow0 Hb c wc) : SimTs X W Z CL ow0 Hb [c] wc := fun S ρ σ H ow P Ex Q r w g b => PTsat.of (pts_one PTat.pt) (h S ρ σ H ow P Ex Q r w g b)
abbrev W0 : WX := fun _ _ _ _ => False
def lcW (b : WB) (tt : WT) (we : WE) (ρ0 : Ev) (P : List D → Prop) : List D → List D → Prop
  | [], acc => P acc
  | d :: ds, acc => b ρ0 d fun ρ' => tt ρ' (fun c => if c = true then we ρ' (fun y => match y.kp with
      | some e => lcW b tt we ρ0 P ds (acc ++ [e])
      | none => False) (fun _ => False) else lcW b tt we ρ0 P ds acc) (fun _ => False)
def wLc (wi : WI) (b : WB) (tt : WT) (we : WE) (vs : List Nat) : WE := fun ρ P Ex => wi ρ (fun ds => lcW b tt we (wipeE ρ vs) (fun acc => P (.own acc)) ds []) Ex
/-- another owned address, new -/
theorem Rel.more {S : Hp} {ρ : Ev} {σ : L2.St} {H H' : Hp} {ow : List Addr} {p : Addr} (r : Rel CL Z X.K ow0 Hb S ρ σ H ow) (e : SameBut (fp Z) H H') (z : RZ Z H') (hp : New H p) (hp' : ∃ o, NT o ∧ H' p = some o) : Rel CL Z X.K ow0 Hb S ρ σ H' (p :: ow) := by
  have grow : Le (hid ow H) (hid (p :: ow) H') := hid_mono e r.gr.fpo fun a m => (List.mem_cons.mp m).elim (fun q => .inr (q ▸ hp)) .inl
  refine ⟨⟨z, fun a m => List.mem_cons_of_mem _ (r.gr.fpo a m), fun a m => ?_⟩, r.len, r.sb.trans e, fun a m => List.mem_cons_of_mem _ (r.sub a m), r.mark.trans grow, fun i y h => ?_, r.sep⟩
  · rcases List.mem_cons.mp m with rfl | m
    · exact hp'
    · exact (r.gr.step e z).isS a m
  · obtain ⟨u, u1, u2⟩ := r.val i y h
    refine ⟨u, u1, ?_⟩
    cases y with
    | d x => exact Dt.mono grow u2
    | own as =>
      obtain ⟨t, ts, rfl, t0, t1, t2, t3, t4⟩ := u2
      exact ⟨t, ts, rfl, t0, List.mem_cons_of_mem _ t1, t2, e t _ t2 nt_lst t3, DtAll.mono grow t4⟩
    | bor as => exact u2
    | bag => exact u2
    | fn f φ => exact u2
theorem hid_upd {ow : List Addr} {H : Hp} {p : Addr} {o : HO} (hp : p ∈ ow) : hid ow (upd H p o) = hid ow H := by
  funext a
  unfold hid
  by_cases m : a ∈ ow
  · rw [if_pos m, if_pos m]
  · rw [if_neg m, if_neg m, upd_ne (fun e : a = p => m (by rw [e]; exact hp))]
/-- an owned address of no slot is written -/
theorem Rel.put {S : Hp} {ρ : Ev} {σ : L2.St} {H : Hp} {ow : List Addr} {p : Addr} {us vs : List V} (r : Rel CL Z X.K ow0 Hb S ρ σ H ow) (hu : H p = some (.lst us)) (hp : p ∈ ow) (hf : p ∉ fp Z) (hb : New Hb p) (hs : ∀ (i : Nat) (as : List D), ρ[i]? = some (some (.own as)) → σ[i]? = some (some (V.ref p)) → False) : Rel CL Z X.K ow0 Hb S ρ σ (upd H p (.lst vs)) ow := by
  have same := hid_upd (H := H) (o := .lst vs) hp
  have sb' : SameBut (fp Z) Hb (upd H p (.lst vs)) := fun a u n t q => by
    have ne : a ≠ p := fun e => by rw [e] at q; exact hb u t q
    rw [upd_ne ne]
    exact r.sb a u n t q
  refine ⟨⟨r.gr.ext.upd hf hu, r.gr.fpo, fun a m => ?_⟩, r.len, sb', r.sub, by rw [same]; exact r.mark, fun i y h => ?_, r.sep⟩
  · by_cases e : a = p
    · subst e
      exact ⟨_, nt_lst, upd_same⟩
    · rw [upd_ne e]
      exact r.gr.isS a m
  · obtain ⟨u, u1, u2⟩ := r.val i y h
    refine ⟨u, u1, ?_⟩
    cases y with
    | d x => show Dt _ _ _ _; rw [same]; exact u2
    | own as =>
      obtain ⟨t, ts, rfl, t0, t1, t2, t3, t4⟩ := u2
      have ne : t ≠ p := fun e => hs i as h (e ▸ u1)
      exact ⟨t, ts, rfl, t0, t1, t2, by rw [upd_ne ne]; exact t3, by rw [same]; exact t4⟩
    | bor as => exact u2
    | bag => exact u2
    | fn f φ => exact u2
theorem lc_sound {tg iter elt : Expr} {ifs : List Expr} {scope : Scope} {wi : WI} {b : WB} {is : List Nat} {tt : WT} {we : WE} {vs : List Nat} (hi : SimI X W Z CL ow0 Hb tg iter wi) (his : ∀ i ∈ is, i ∈ vs)
    (g0 : Gr Z ow0 Hb)
    {g : TG} {t : TT} {te : TE}
    (hg : ∀ {S : Hp} {ρ : Ev} {σ : L2.St} {H : Hp} {ow : List Addr} {d : D} {v : V} {k : Ev → Prop} {Q : L2.St → Hp → Prop}, Rel CL Z X.K ow0 Hb S ρ σ H ow → Dt X.K (hid ow H) v d → b ρ d k → (∀ ρ' σ', k ρ' → Rel CL Z X.K ow0 Hb S ρ' σ' H ow → Only is σ σ' → Q σ' H) → g v σ H Q)
    (ht : ∀ {S : Hp} {ρ : Ev} {σ : L2.St} {H : Hp} {ow : List Addr} {P : Bool → Prop} {Q : Bool → Hp → Prop}, Rel CL Z X.K ow0 Hb S ρ σ H ow → tt ρ P (fun _ => False) → GdT Z H P Q → t σ H Q)
    (he : ∀ {S : Hp} {ρ : Ev} {σ : L2.St} {H : Hp} {ow : List Addr} {P : Val → Prop} {Q : VK}, Rel CL Z X.K ow0 Hb S ρ σ H ow → we ρ P (fun _ => False) → Gd CL Z X.K ow H P Q → te σ H Q)
    {S : Hp} {ρ : Ev} {σ : L2.St} {H : Hp} {ow : List Addr} {P : Val → Prop} {Ex : Xn → Prop} {Q : VK} (r : Rel CL Z X.K ow0 Hb S ρ σ H ow) (w : wLc wi b tt we vs ρ P Ex) (gd : Gd CL Z X.K ow H P Q) (bd : Bd Z X.K ow X.mg W σ H Ex) :
    tLc (fun σ H R => PIat X tg iter σ H fun J H' => Held X H' → R J H') g t te vs σ H Q := by
  refine hi S ρ σ H ow _ _ _ r w (fun ds J H1 p e z hJ hlen => fun hh => ?_) bd
  intro L hL
  have hsz := hlen hh
  have r1 := (r.step e z).remark (S' := hid ow H1) (.refl _)
  have hLz : L ∉ fp Z := fun m => r1.gr.no (.of hL) (r1.gr.fpo L m)
  have hLb : New Hb L := r1.sb.free hLz (.of hL)
  have hLow : L ∉ ow := r1.gr.no (.of hL)
  have r2 : Rel CL Z X.K ow0 Hb (hid ow H1) ρ σ (upd H1 L (.lst [])) (L :: ow) := r1.more (SameBut.new hL) (z.le (Le.new hL)) (.of hL) ⟨_, nt_lst, upd_same⟩
  -- between two turns
  refine ⟨fun i m H => m = ds.length - i ∧ i ≤ ds.length ∧ ∃ acc us, lcW b tt we (wipeE ρ vs) (fun acc => P (.own acc)) (ds.drop i) acc ∧ acc.length ≤ i ∧ H L = some (.lst us) ∧ DtAll X.K (hid (L :: ow) H) us acc ∧ Rel CL Z X.K ow0 Hb (hid ow H1) ρ σ H (L :: ow) ∧ SameBut (fp Z) H1 H, ⟨ds.length, by simp, Nat.zero_le _, [], [], p, Nat.le_refl _, upd_same, .nil, r2, SameBut.new hL⟩, ?_⟩
  rintro i m H2 ⟨rfl, hi2, acc, us, p2, hacc, hL2, ha2, r3, sb2⟩
  have le : Le (hid ow H1) H2 := r3.mark.trans hid_le
  have nos : ∀ {ρ' : Ev} {σ' : L2.St} {H' : Hp}, Rel CL Z X.K ow0 Hb (hid ow H1) ρ' σ' H' (L :: ow) → True := fun _ => True.intro
  by_cases hlt : i < ds.length
  · refine .inr ⟨hJ.go i H2 le hlt, fun H => ∃ acc us, lcW b tt we (wipeE ρ vs) (fun acc => P (.own acc)) (ds.drop (i + 1)) acc ∧ acc.length ≤ i + 1 ∧ H L = some (.lst us) ∧ DtAll X.K (hid (L :: ow) H) us acc ∧ Rel CL Z X.K ow0 Hb (hid ow H1) ρ σ H (L :: ow) ∧ SameBut (fp Z) H1 H, fun H' q => ⟨ds.length - (i + 1), by omega, rfl, hlt, q⟩, fun x H' y => ?_⟩
    have hd : ds[i]? = some ds[i] := by simp [hlt]
    obtain ⟨l1, l2⟩ := hJ.yld i H2 x H' (L :: ow) _ r3.gr.isS r3.mark hd y
    rw [List.drop_eq_getElem_cons hlt] at p2
    have r4 := r3.step (.of_le l1) (r3.gr.ext.le l1)
    refine hg (r4.wiped vs) l2 p2 fun ρ5 σ5 p5 r5 o5 => ⟨by rw [(o5.mono his).wipe, wipe_wipe], ?_⟩
    refine ht r5 p5 fun c H6 p6 e6 z6 => ?_
    have r6 := r4.step e6 z6
    have hL6 : H6 L = some (.lst us) := e6 L _ hLz nt_lst (l1 _ _ hL2)
    have ha6 : DtAll X.K (hid (L :: ow) H6) us acc := DtAll.mono (hid_mono e6 r4.gr.fpo fun _ m => .inl m) (DtAll.mono (hid_mono (SameBut.of_le l1) r3.gr.fpo fun _ m => .inl m) ha2)
    have sb6 : SameBut (fp Z) H1 H6 := sb2.trans ((SameBut.of_le l1).trans e6)
    cases c with
    | false =>
      rw [if_neg (by decide)] at p6 ⊢
      exact ⟨acc, us, p6, Nat.le_succ_of_le hacc, hL6, ha6, r6, sb6⟩
    | true =>
      rw [if_pos rfl] at p6 ⊢
      refine he (r5.step e6 z6) p6 fun v y H7 p7 e7 z7 q7 => ?_
      split at p7
      · rename_i e8 ed
        have hL7 : H7 L = some (.lst us) := e7 L _ hLz nt_lst hL6
        have ha7 : DtAll X.K (hid (L :: ow) H7) us acc := DtAll.mono (hid_mono e7 r6.gr.fpo fun _ m => .inl m) ha6
        have r7 := r6.step e7 z7
        refine ⟨us, hL7, ?_, acc ++ [e8], us ++ [y], p7, by simp; omega, upd_same, ?_, ?_, fun a u n t q => ?_⟩
        · rw [ha7.length]
          omega
        · rw [hid_upd List.mem_cons_self]
          exact ha7.append (.cons (q7.kp ed) .nil)
        · refine r7.put hL7 List.mem_cons_self hLz hLb fun j as hj hσ => ?_
          obtain ⟨w1, w2, t, ts, et, t0, t1, t2, t3, t4⟩ := r.val j _ hj
          rw [hσ] at w2
          cases w2
          cases et
          have : H1 L = some (.lst ts) := e L _ hLz nt_lst t3
          rw [hL] at this
          cases this
        · have ne : a ≠ L := fun e => by rw [e, hL] at q; cases q
          rw [upd_ne ne]
          exact e7 a u n t (sb6 a u n t q)
      · exact p7.elim
  · have ei : i = ds.length := by omega
    subst ei
    rw [List.drop_length] at p2
    refine .inl ⟨hJ.stop H2 le, ?_⟩
    refine gd (.own acc) _ H2 p2 (e.trans sb2) r3.gr.ext ⟨L, us, rfl, e.free hLz (.of hL), hLow, hL2, ha2⟩
end
end Pd

/-! Pd8: comprehensions, lists that grow, raise, promises of defs, calls. -/
namespace Pd
open PySem PySem.Spec PyProof.Rows L2
section
variable {X : Cx} {W : WX} {Z : Ext} {CL : Calls} {ow0 : List Addr} {Hb : Hp}
/-- what holds in every block of X -/
def InBlk (X : Cx) (scope : Scope) (p : Cx → Prop) : Prop := ∀ (s : Shared) (H : Hp) (C : Addr) (cl : List (Str × Addr)) (fp : List Addr), p (X.blk s H scope (compEnvC scope cl C X.env) fp)
theorem lc_parts {tg iter elt : Expr} {ifs : List Expr} {scope : Scope} {own : List (Str × Nat)} {b : WB} {is : List Nat} {tt : WT} {we : WE}
    (hg : InBlk X scope fun Y => SimB Y Z CL ow0 Hb tg b is) (ht : InBlk X scope fun Y => SimTs Y W0 Z CL ow0 Hb ifs tt) (he : InBlk X scope fun Y => SimE Y W0 Z CL ow0 Hb elt we) (hi : SimI X W Z CL ow0 Hb tg iter wi) (his : ∀ i ∈ is, i ∈ own.map (·.2)) (g0 : Gr Z ow0 Hb)
    {S : Hp} {ρ : Ev} {σ : L2.St} {H : Hp} {ow : List Addr} {P : Val → Prop} {Ex : Xn → Prop} {Q : VK} (r : Rel CL Z X.K ow0 Hb S ρ σ H ow) (w : wLc wi b tt we (own.map (·.2)) ρ P Ex) (gd : Gd CL Z X.K ow H P Q) (bd : Bd Z X.K ow X.mg W σ H Ex) :
    tLc (fun σ H R => PIat X tg iter σ H fun J H' => Held X H' → R J H') (fun v σ H Q => InBlk X scope fun Y => PGat Y tg v σ H Q) (fun σ H Q => InBlk X scope fun Y => PTsat Y ifs σ H Q) (fun σ H Q => InBlk X scope fun Y => PEat Y elt σ H Q) (own.map (·.2)) σ H Q := by
  refine lc_sound (X := X) (W := W) (Z := Z) (CL := CL) (ow0 := ow0) (Hb := Hb) (elt := elt) (ifs := ifs) (scope := scope) hi his g0 (fun r h w g s H C cl fp => ?_) (fun r w g s H C cl fp => ?_) (fun r w g s H C cl fp => ?_) r w gd bd
  · exact hg s H C cl fp _ _ _ _ _ _ _ _ _ r h w g
  · exact ht s H C cl fp _ _ _ _ _ _ _ _ r w g fun _ _ _ _ z => z.elim
  · exact he s H C cl fp _ _ _ _ _ _ _ _ r w g fun _ _ _ _ z => z.elim
theorem sim_lc {tg iter elt : Expr} {ifs : List Expr} {scope : Scope} {own : List (Str × Nat)} {pos : Pos} {wi : WI} {b : WB} {is : List Nat} {tt : WT} {we : WE} (hc : X.calm = true) (hN : X.N.Nodup) (g0 : Gr Z ow0 Hb) (hi : SimI X W Z CL ow0 Hb tg iter wi) (ok : BlkOk X.N X.env.scope scope own) (his : ∀ i ∈ is, i ∈ own.map (·.2))
    (hg : InBlk X scope fun Y => SimB Y Z CL ow0 Hb tg b is) (ht : InBlk X scope fun Y => SimTs Y W0 Z CL ow0 Hb ifs tt) (he : InBlk X scope fun Y => SimE Y W0 Z CL ow0 Hb elt we)
    (hs : ∀ x, foldedSetIterable iter X.env x = pure x := by intro _; rfl) : SimE X W Z CL ow0 Hb (.ListComp elt [⟨tg, iter, ifs, 0⟩] scope pos) (wLc wi b tt we (own.map (·.2))) := by
  intro S ρ σ H ow P Ex Q r w g bd
  refine PEat.of (pe_lc (g := fun v σ H Q => InBlk X scope fun Y => PGat Y tg v σ H Q) (tt := fun σ H Q => InBlk X scope fun Y => PTsat Y ifs σ H Q) (te := fun σ H Q => InBlk X scope fun Y => PEat Y elt σ H Q) hc hN PIat.pi ok (fun s H C cl fp => ⟨fun pins s' σ H' v u Q I rv h => h s H C cl fp pins s' u I rv⟩) (fun s H C cl fp => ⟨fun pins s' σ H' Q I h => h s H C cl fp pins s' I⟩) (fun s H C cl fp => ⟨fun pins s' σ H' Q I h => h s H C cl fp pins s' I⟩) hs) ?_
  exact lc_parts hg ht he hi his g0 r w g bd
end
end Pd

/-! Pd9: methods of owned lists. -/
namespace Pd
open PySem PySem.Spec PyProof.Rows L2
section
variable {X : Cx} {W : WX} {Z : Ext} {CL : Calls} {ow0 : List Addr} {Hb : Hp}
theorem getSet {α : Type} {l : List α} {i j : Nat} {a b : α} (h : (l.set i a)[j]? = some b) : (j = i ∧ b = a ∧ i < l.length) ∨ (j ≠ i ∧ l[j]? = some b) := by
  by_cases e : j = i
  · subst e
    by_cases hl : j < l.length
    · rw [List.getElem?_set_self hl] at h
      exact .inl ⟨rfl, (Option.some.inj h).symm, hl⟩
    · rw [List.getElem?_eq_none (by simpa using hl)] at h; cases h
  · rw [List.getElem?_set_ne (Ne.symm e)] at h
    exact .inr ⟨e, h⟩
/-- the list of a slot is written -/
theorem Rel.putS {S : Hp} {ρ : Ev} {σ : L2.St} {H : Hp} {ow : List Addr} {p : Addr} {us vs : List V} {i : Nat} {xs ys : List D} (r : Rel CL Z X.K ow0 Hb S ρ σ H ow) (hi : ρ[i]? = some (some (.own xs))) (hσ : σ[i]? = some (some (.ref p))) (hu : H p = some (.lst us)) (ha : DtAll X.K (hid ow H) vs ys) :
    Rel CL Z X.K ow0 Hb S (ρ.set i (some (.own ys))) σ (upd H p (.lst vs)) ow := by
  obtain ⟨v, h1, p', us', e1, hb, hp, hf, h2, h3⟩ := r.val i _ hi
  rw [hσ] at h1
  cases h1
  cases e1
  have same := hid_upd (H := H) (o := .lst vs) hp
  have r' : Rel CL Z X.K ow0 Hb S (ρ.set i none) σ H ow := r.weak (by rw [List.length_set, r.len]) fun j y q => by
    rcases getSet q with ⟨_, z, _⟩ | ⟨_, z⟩
    · cases z
    · exact ⟨z, rfl⟩
  have r2 := r'.put (us := us) (vs := vs) hu hp hf hb fun j as q s => by
    rcases getSet q with ⟨_, z, _⟩ | ⟨n, z⟩
    · cases z
    · exact r.sep j i as xs p n z hi s hσ
  refine ⟨r2.gr, by rw [List.length_set, r.len], r2.sb, r2.sub, r2.mark, fun j y q => ?_, fun j k as bs q nj q1 q2 s1 s2 => ?_⟩
  · rcases getSet q with ⟨rfl, z, _⟩ | ⟨n, z⟩
    · cases z
      exact ⟨_, hσ, p, vs, rfl, hb, hp, hf, upd_same, by rw [same]; exact ha⟩
    · exact r2.val j y (by rw [List.getElem?_set_ne (Ne.symm n)]; exact z)
  · have un : ∀ {j : Nat} {as : List D}, (ρ.set i (some (.own ys)))[j]? = some (some (.own as)) → ∃ cs, ρ[j]? = some (some (.own cs)) := fun {j as} q => by
      rcases getSet q with ⟨rfl, _, _⟩ | ⟨_, z⟩
      · exact ⟨xs, hi⟩
      · exact ⟨as, z⟩
    obtain ⟨cs, q1⟩ := un q1
    obtain ⟨cs', q2⟩ := un q2
    exact r.sep j k _ _ q nj q1 q2 s1 s2

abbrev OpM := List D → List D → (List D → Prop) → Prop
def wMt (i : Nat) (op : OpM) (w : WA) : WS := fun E ρ => match ρ[i]? with
  | some (some (.own xs)) => w ρ (fun ys => match keeps ys with
    | some ds => op xs ds fun zs => E.nx (ρ.set i (some (.own zs)))
    | none => False) (fun x => E.ex x ρ)
  | _ => False
/-- what a method does of data -/
def MOk (K : PySem.W.Frag) (r : V → List V → Hp → VK → Prop) (op : OpM) : Prop := ∀ (ow : List Addr) (H : Hp) (l : Addr) (vs us : List V) (xs ds : List D) (P : List D → Prop) (Q : VK), l ∈ ow → H l = some (.lst vs) → DtAll K (hid ow H) vs xs → DtAll K (hid ow H) us ds → op xs ds P →
  (∀ zs ws, P zs → DtAll K (hid ow H) ws zs → Q .non (upd H l (.lst ws))) → r (.ref l) us H Q
theorem sim_mt {op : OpM} {id : String} {r : V → List V → Hp → VK → Prop} (hm : MtR X id r) (hop : MOk X.K r op) (i : Nat) {x name : Str} {xp apos cpos pos : Pos} {e : Expr} {es : List Expr} {wa : WA} (slot : Slot "list" name id) (hty : typeOf (.builtin id) = pure (.type "method_descriptor")) (ha : SimA X W Z CL ow0 Hb (e :: es) wa)
    (hN : X.N[i]? = some x := by rfl) (hv : Vis X.env.scope x := by first | exact Or.inl rfl | exact Or.inr (Or.inl rfl) | exact Or.inr (Or.inr rfl)) (hd : (x == ("__debug__" : Str)) = false := by decide) (hcd : (x == ("__classdict__" : Str)) = false := by decide)
    (hbase : attributeBase (.Name x xp) name X.env (eval (.Name x xp) X.env) = eval (.Name x xp) X.env := by rfl)
    (hfew : ((backTo cpos (starEach (e :: es) X.env)).all (fun x => !x.1) && (backToKw cpos (keywordEach [] X.env)).all (fun x => x.1.isSome)
      && decide ((e :: es).length + ([] : List Keyword).length + (if ([] : List Keyword).isEmpty then 0 else 1) < 30)) = true := by rfl)
    (hline : (apos.endLine == cpos.line) = true := by rfl) (hs : starEach (e :: es) X.env = (false, eval e X.env) :: starEach es X.env := by rfl) (hplain : (backTo cpos (starEach es X.env)).any (·.1) = false := by rfl)
    (hsw : swapsWith (.Call (.Attribute (.Name x xp) name apos) (e :: es) [] cpos) none pos.line X.env = pure false := by rfl) :
    SimS X W Z CL ow0 Hb (.Expr (.Call (.Attribute (.Name x xp) name apos) (e :: es) [] cpos) pos) (wMt i op wa) := by
  intro S ρ σ H ow E D rl w o
  unfold wMt at w
  split at w
  · rename_i xs hi
    obtain ⟨v, h1, p, vs, rfl, hb, hp, hf, h2, h3⟩ := rl.val i _ hi
    refine PSat.of (ps_expr (pe_bm PySem.F.plainAttrs_list slot hty hm (pe_var hN hv hd hcd) PAat.pa hbase hfew hline hs hplain) hsw) ?_
    refine ⟨_, h1, Or.inl ⟨rfl, _, Or.inl (Or.inl h2)⟩, ?_⟩
    refine ha S ρ σ H ow _ _ _ rl w (fun ys us H1 p1 e1 z1 q1 => ?_) (o.bd rl)
    split at p1
    · rename_i ds ed
      have r1 := rl.step e1 z1
      have h2' : H1 p = some (.lst vs) := e1 p _ hf nt_lst h2
      have h3' : DtAll X.K (hid ow H1) vs xs := DtAll.mono (hid_mono e1 rl.gr.fpo fun _ m => .inl m) h3
      exact hop ow H1 p vs us xs ds _ _ hp h2' h3' (q1.keeps ed) p1 fun zs ws pz hz => o.nx _ σ _ ow pz (r1.putS hi h1 h2' hz)
    · exact p1.elim
  · exact w.elim
def mAppend : OpM := fun xs ds P => match ds with
  | [d] => xs.length < sizeLine ∧ P (xs ++ [d])
  | _ => False
theorem mo_append {K : PySem.W.Frag} : MOk K rAppend mAppend := by
  intro ow H l vs us xs ds P Q hl hv ha hu w q
  unfold mAppend at w
  split at w
  · cases hu with
    | cons h t =>
      cases t
      exact ⟨l, vs, _, rfl, rfl, hv, by rw [ha.length]; exact w.1, q _ _ w.2 (ha.append (.cons h .nil))⟩
  · exact w.elim
def mInsert : OpM := fun xs ds P => match ds with
  | [.int i, d] => (xs.length < sizeLine ∧ 0 ≤ i ∧ i < 2 ^ 63) ∧ P (xs.take i.toNat ++ [d] ++ xs.drop i.toNat)
  | _ => False
theorem mo_insert {K : PySem.W.Frag} : MOk K (fun x vs H Q => ∃ (l : Addr) (xs : List V) (i : Int) (y : V), x = .ref l ∧ vs = [.int i, y] ∧ H l = some (.lst xs) ∧ xs.length < sizeLine ∧ 0 ≤ i ∧ i < 2 ^ 63 ∧
    Q .non (upd H l (.lst (xs.take i.toNat ++ [y] ++ xs.drop i.toNat)))) mInsert := by
  intro ow H l vs us xs ds P Q hl hv ha hu w q
  unfold mInsert at w
  split at w
  · cases hu with
    | cons h t =>
      cases t with
      | cons h2 t2 =>
        cases t2
        cases h
        exact ⟨l, vs, _, _, rfl, rfl, hv, by rw [ha.length]; exact w.1.1, w.1.2.1, w.1.2.2, q _ _ w.2 (((ha.take _).append (.cons h2 .nil)).append (ha.drop _))⟩
  · exact w.elim
def mExtend : OpM := fun xs ds P => match ds with
  | [.list ys] => xs.length + ys.length ≤ sizeLine ∧ P (xs ++ ys)
  | _ => False
theorem mo_extend {K : PySem.W.Frag} : MOk K rExtend mExtend := by
  intro ow H l vs us xs ds P Q hl hv ha hu w q
  unfold mExtend at w
  split at w
  · cases hu with
    | cons h t =>
      cases t
      cases h with
      | lst h1 h2 => exact ⟨l, _, vs, _, rfl, rfl, hv, hid_le _ _ h1, by rw [ha.length, h2.length]; exact w.1, q _ _ w.2 (ha.append h2)⟩
  · exact w.elim
/-- from here on the list of a slot is data -/
def wFrz (i : Nat) (w : WS) : WS := fun E ρ => match ρ[i]? with
  | some (some (.own xs)) => w E (ρ.set i (some (.d (.list xs))))
  | _ => False
theorem Rel.frz {S : Hp} {ρ : Ev} {σ : L2.St} {H : Hp} {ow : List Addr} {i : Nat} {xs : List D} (r : Rel CL Z X.K ow0 Hb S ρ σ H ow) (g0 : Gr Z ow0 Hb) (hi : ρ[i]? = some (some (.own xs))) : ∃ ow', Rel CL Z X.K ow0 Hb S (ρ.set i (some (.d (.list xs)))) σ H ow' := by
  obtain ⟨v, h1, p, vs, rfl, hb, hp, hf, h2, h3⟩ := r.val i _ hi
  have less : Le (hid ow H) (hid (ow.filter (· ≠ p)) H) := hid_less fun a m => (List.mem_filter.mp m).1
  refine ⟨ow.filter (· ≠ p), ⟨r.gr.ext, fun a m => List.mem_filter.mpr ⟨r.gr.fpo a m, by simpa using fun e : a = p => hf (e ▸ m)⟩, fun a m => r.gr.isS a (List.mem_filter.mp m).1⟩, by rw [List.length_set, r.len], r.sb,
    fun a m => List.mem_filter.mpr ⟨r.sub a m, by simpa using fun e : a = p => g0.no hb (e ▸ m)⟩, r.mark.trans less, fun j y q => ?_, fun j k as bs q nj q1 q2 s1 s2 => ?_⟩
  · rcases getSet q with ⟨rfl, z, _⟩ | ⟨n, z⟩
    · cases z
      exact ⟨_, h1, .lst (hid_of (fun m => by simpa using (List.mem_filter.mp m).2) h2 nt_lst) (DtAll.mono less h3)⟩
    · obtain ⟨u, u1, u2⟩ := r.val j y z
      refine ⟨u, u1, ?_⟩
      cases y with
      | d x => exact Dt.mono less u2
      | own as =>
        obtain ⟨t, ts, rfl, t0, t1, t2, t3, t4⟩ := u2
        exact ⟨t, ts, rfl, t0, List.mem_filter.mpr ⟨t1, by simpa using fun e : t = p => r.sep j i as xs t n z hi u1 (by rw [e]; exact h1)⟩, t2, t3, DtAll.mono less t4⟩
      | bor as => exact u2
      | bag => exact u2
      | fn f φ => exact u2
  · have un : ∀ {j : Nat} {as : List D}, (ρ.set i (some (.d (.list xs))))[j]? = some (some (.own as)) → ρ[j]? = some (some (.own as)) := fun {j as} q => by
      rcases getSet q with ⟨rfl, z, _⟩ | ⟨_, z⟩
      · cases z
      · exact z
    exact r.sep j k _ _ q nj (un q1) (un q2) s1 s2
theorem sim_frz (i : Nat) {ss : List Stmt} {w : WS} (g0 : Gr Z ow0 Hb) (h : SimSs X W Z CL ow0 Hb ss w) : SimSs X W Z CL ow0 Hb ss (wFrz i w) := by
  intro S ρ σ H ow E D r w o
  unfold wFrz at w
  split at w
  · rename_i xs hi
    obtain ⟨ow', r'⟩ := r.frz g0 hi
    exact h S _ σ H ow' E D r' w o
  · exact w.elim
end
end Pd

/-! Pd10: promises of defs, calls, callables, raise. -/
namespace Pd
open PySem PySem.Spec PyProof.Rows L2
section
variable (P : Program) (w : World) (K : PySem.W.Frag) (mg : Str → Option Value) (base : Heap)
/-- the thing at f may be called with one argument: of data φ tells -/
structure Clb (kc : Nat) (Z : Ext) (f : Addr) (φ : Fn1) : Prop where
  keeps : PySem.W.keepIn K (.ref f) = true ∨ ∃ ψ, (f, ψ) ∈ Z.fns ∧ ∀ h, ψ h → PySem.W.FnAt f h
  run : ∀ (A : Around) (outer : List Env) (s : Shared) (H : Hp) (ow : List Addr) (u : Value) (v : V) (d : D) (R : D → Prop) (Q : VK) (E : XK), Room kc A → Env0 P w K mg base A outer s H → Gr Z ow H → RelV v u → Dt K (hid ow H) v d → φ d R →
    (∀ x v' H', R x → SameBut (fp Z) H H' → RZ Z H' → Dt K (hid ow H') v' x → Q v' H') → codeAny (model P w) A (.call (.ref f) ⟨[u], []⟩) (CR (L2.CX P w) outer P w H s Q E) s
abbrev Fs := List Val → (Val → Prop) → (Xn → Prop) → Prop
/-- as an argument is handed in -/
def argOk : Val → Bool
  | .d _ => true
  | .bag => true
  | .fn _ _ => true
  | _ => false
/-- the promise of a def of n parameters -/
def spW (TT : List (Addr × Str)) (kc n : Nat) (Φ : Fs) : Sp := fun vs H Q E => vs.length = n ∧ ∃ (Z : Ext) (ow : List Addr) (_ : Z.tabs = TT) (ys : List Val) (R : Val → Prop) (Ex : Xn → Prop), Gr Z ow H ∧ RVs Z (Clb P w K mg base kc Z) K ow H H vs ys ∧ ys.all argOk = true ∧ Φ ys R Ex ∧
  Gd (Clb P w K mg base kc Z) Z K ow H R Q ∧ ∀ x cls d H', Ex x → ExR K ow mg x cls d H' → SameBut (fp Z) H H' → RZ Z H' → E cls d H'
end
section
variable {P : Program} {w : World} {K : PySem.W.Frag} {mg : Str → Option Value} {base : Heap} {TT : List (Addr × Str)} {kc : Nat}
/-- the slots at a body's beginning -/
def start0 (N : List Str) (ys : List Val) : Ev := ys.map some ++ List.replicate (N.length - ys.length) none
theorem rvs_get {CL : Calls} {Z : Ext} {ow : List Addr} {H0 H : Hp} : ∀ {vs : List V} {ys : List Val} {i : Nat} {y : Val}, RVs Z CL K ow H0 H vs ys → ys[i]? = some y → ∃ v, vs[i]? = some v ∧ RV CL Z K ow H0 H v y
  | _, _, _, _, .nil, e => by simp at e
  | _, _, 0, _, .cons h _, e => by simp at e; subst e; exact ⟨_, rfl, h⟩
  | _, _, i + 1, _, .cons _ t, e => by
    obtain ⟨v, h1, h2⟩ := rvs_get (i := i) t (by simpa using e)
    exact ⟨v, by simpa using h1, h2⟩
theorem rel_start {CL : Calls} {Z : Ext} {ow : List Addr} {H : Hp} {N : List Str} {vs : List V} {ys : List Val} (gr : Gr Z ow H) (h : RVs Z CL K ow H H vs ys) (ha : ys.all argOk = true) : Rel CL Z K ow H (hid ow H) (start0 N ys) (L2.start N vs) H ow := by
  have hl := h.length
  have here : ∀ {i : Nat} {y : Val}, (start0 N ys)[i]? = some (some y) → ys[i]? = some y := fun {i y} e => by
    unfold start0 at e
    by_cases hi : i < ys.length
    · rw [List.getElem?_append_left (by simpa using hi), List.getElem?_map] at e
      cases q : ys[i]? with
      | none => rw [q] at e; cases e
      | some z => rw [q] at e; cases e; rfl
    · rw [List.getElem?_append_right (by simpa using hi), List.getElem?_replicate] at e
      split at e <;> cases e
  have ok : ∀ {y : Val}, y ∈ ys → argOk y = true := fun m => List.all_eq_true.mp ha _ m
  refine ⟨gr, ?_, .refl _ _, fun _ m => m, .refl _, fun i y e => ?_, fun i j xs zs p n e1 e2 _ _ => ?_⟩
  · unfold start0 L2.start
    simp [hl]
  · have e := here e
    obtain ⟨v, h1, h2⟩ := rvs_get h e
    have o := ok (List.mem_of_getElem? e)
    refine ⟨v, ?_, ?_⟩
    · have hi : i < vs.length := (List.getElem?_eq_some_iff.mp h1).1
      unfold L2.start
      rw [List.getElem?_append_left (by simpa using hi), List.getElem?_map, h1]
      rfl
    · cases y with
      | d x => exact h2
      | own xs => cases o
      | bor xs => cases o
      | bag => exact h2
      | fn f φ => exact h2
  · have o := ok (List.mem_of_getElem? (here e1))
    cases o
/-- what a body's run is to do -/
def endW (R : Val → Prop) (Ex : Xn → Prop) : En := { nx := fun _ => R (.d .none), rt := R, ex := fun x _ => Ex x }
/-- a def by its body -/
theorem fn_W {x qual : Str} {st : Stmt} {f : Addr} {fd : FuncData} {N ps : List Str} {k : Nat} {Φ : Fs} {wb : WS} (F : Fun K x qual st f fd) (S : FnScope N ps (defScope st))
    (hbody : ∀ (cdv : Value) (A : Around) (outer : List Env) (s : Shared) (H : Hp) (E : XK) (Z : Ext) (ow : List Addr), Room k (A.deeper (envOfC qual (defScope st) s.heap.objs.size f cdv)) → PySem.W.codeIn K cdv qual = true → Z.tabs = TT → Gr Z ow H →
      SimSs (cxOf (L2.CX P w) P w K mg base N qual (defScope st) f cdv A outer s H E) (fun cls d _ H' => E cls d H') Z (Clb P w K mg base kc Z) ow H (defBody st) wb)
    (hv : ∀ ys R Ex, ys.length = ps.length → ys.all argOk = true → Φ ys R Ex → wb (endW R Ex) (start0 N ys)) : FnOk P w K mg base (L2.CX P w) (k + 1) f fd ps (spW P w K mg base TT kc ps.length Φ) := by
  obtain ⟨oc, od, kV, doc, pm, an, cdv, ct, osl, rfl, lk, hcd⟩ := F.ex
  refine fn_of lk hcd S (fun vs H Q E h => h.1) fun A outer s H vs Q E hr h => ?_
  obtain ⟨hl, Z, ow, hT, ys, R, Ex, gr, hy, ha, hΦ, hQ, hE⟩ := h
  refine ⟨_, PSsat.ps, ?_⟩
  refine hbody cdv A outer s H E Z ow hr hcd hT gr (hid ow H) (start0 N ys) _ H ow (endW R Ex) _ (rel_start gr hy ha) (hv ys R Ex (by rw [← hy.length]; exact hl) ha hΦ) ⟨fun ρ σ H' ow' p r => ?_, fun _ _ _ _ p _ => p.elim, fun _ _ _ _ p _ => p.elim, fun y v H' p e z h => hQ y v H' p e z h, fun x ρ σ H' ow' cls d p r er => ?_⟩
  · exact hQ (.d .none) .non H' p r.sb r.gr.ext .non
  · refine hE x cls d H' p ⟨er.1, fun n => ?_⟩ r.sb r.gr.ext
    obtain ⟨dx, fs, h1, h2, h3, h4⟩ := er.2 n
    exact ⟨dx, fs, h1, h2, h3, DtAll.mono (hid_less r.sub) h4⟩
end
/-! ### calls -/
/-- as an argument of a call -/
def toArg : Val → Option Val
  | .d x => some (.d x)
  | .own xs => some (.d (.list xs))
  | .bor _ => none
  | .bag => some .bag
  | .fn f φ => some (.fn f φ)
def toArgs : List Val → Option (List Val)
  | [] => some []
  | y :: ys => match toArg y, toArgs ys with
    | some a, some as => some (a :: as)
    | _, _ => none
section
variable {X : Cx} {W : WX} {Z : Ext} {CL : Calls} {ow0 : List Addr} {Hb : Hp} {TT : List (Addr × Str)} {kc : Nat}
theorem RV.arg {K : PySem.W.Frag} {ow : List Addr} {H0 H : Hp} {v : V} {y a : Val} (h : RV CL Z K ow H0 H v y) (e : toArg y = some a) : RV CL Z K ow H H v a ∧ argOk a = true := by
  cases y with
  | d x => cases e; exact ⟨h, rfl⟩
  | own xs => cases e; exact ⟨h.kp rfl, rfl⟩
  | bor xs => cases e
  | bag => cases e; exact ⟨h, rfl⟩
  | fn f φ => cases e; exact ⟨h, rfl⟩
theorem RVs.args {K : PySem.W.Frag} {ow : List Addr} {H0 H : Hp} : ∀ {vs : List V} {ys as : List Val}, RVs Z CL K ow H0 H vs ys → toArgs ys = some as → RVs Z CL K ow H H vs as ∧ as.all argOk = true ∧ as.length = ys.length
  | _, _, _, .nil, e => by cases e; exact ⟨.nil, rfl, rfl⟩
  | _, _ :: ys, as, .cons (y := y) h t, e => by
    unfold toArgs at e
    cases e1 : toArg y with
    | none => rw [e1] at e; cases e
    | some a =>
      cases e2 : toArgs ys with
      | none => rw [e1, e2] at e; cases e
      | some bs =>
        rw [e1, e2] at e
        cases e
        obtain ⟨h1, h2⟩ := h.arg e1
        obtain ⟨t1, t2, t3⟩ := RVs.args t e2
        exact ⟨.cons h1 t1, by simp [h2, t2], by simp [t3]⟩
/-- a def's call -/
def wCall (n : Nat) (Φ : Fs) (w : WA) : WE := fun ρ P Ex => w ρ (fun ys => match toArgs ys with
  | some as => as.length = n ∧ Φ as P Ex
  | none => False) Ex
theorem sim_call {k : Nat} {f : Addr} {fd : FuncData} {ps : List Str} {Φ : Fs} {x : Str} {p pos : Pos} {e : Expr} {es : List Expr} {wa : WA} (F : FnOk X.prog X.w X.K X.mg X.base (L2.CX X.prog X.w) k f fd ps (spW X.prog X.w X.K X.mg X.base TT kc ps.length Φ)) (hT : Z.tabs = TT) (hr : Room k X.A) (tk : Takes X W) (hg : Gl X x)
    (hm : X.mg x = some (.ref f)) (hk : PySem.W.keepIn X.K (.ref f) = true) (hb : Binds X.K fd ps []) (ha : SimA X W Z (Clb X.prog X.w X.K X.mg X.base kc Z) ow0 Hb (e :: es) wa)
    (hdb : (x == ("__debug__" : Str)) = false := by decide) (he : starEach (e :: es) X.env = (false, eval e X.env) :: starEach es X.env := by rfl) (hpl : (backTo pos (starEach es X.env)).any (·.1) = false := by rfl) :
    SimE X W Z (Clb X.prog X.w X.K X.mg X.base kc Z) ow0 Hb (.Call (.Name x p) (e :: es) [] pos) (wCall ps.length Φ wa) := by
  intro S ρ σ H ow R Ex Q r wq g b
  refine PEat.of (pe_callSD (E := L2.WE W) F hr hg hm hk hb .nil (passAt tk) PAat.pa hdb he hpl) ?_
  refine ha S ρ σ H ow _ _ _ r wq (fun ys vs H1 p1 e1 z1 h1 => ?_) b
  split at p1
  · rename_i as ea
    obtain ⟨hl, hΦ⟩ := p1
    obtain ⟨q1, q2, q3⟩ := h1.args ea
    rw [List.append_nil]
    refine ⟨by rw [h1.length, ← q3]; exact hl, Z, ow, hT, as, R, Ex, r.gr.step e1 z1, q1, q2, hΦ, g.step e1 r.gr.fpo, fun x cls d H' ex er s z => b x cls d H' ex er (e1.trans s) z⟩
  · exact p1.elim
/-- the name of a def, handed on as a callable -/
def wFn (f : Addr) (φ : Fn1) : WE := fun _ P _ => P (.fn f φ)
theorem sim_fn {f : Addr} {φ : Fn1} {x : Str} {pos : Pos} (hg : Gl X x) (hm : X.mg x = some (.ref f)) (hc : CL f φ) (hdb : (x == ("__debug__" : Str)) = false := by decide) : SimE X W Z CL ow0 Hb (.Name x pos) (wFn f φ) :=
  fun S ρ σ H ow P Ex Q r w g b => PEat.of (pe_glob (v := .ref f) hg hm rfl hdb) (g _ _ H w (.refl _ _) r.gr.ext ⟨rfl, hc⟩)
/-- a def as a callable -/
theorem Clb.ofFn {P : Program} {w : World} {K : PySem.W.Frag} {mg : Str → Option Value} {base : Heap} {k : Nat} {f : Addr} {fd : FuncData} {p : Str} {Φ : Fs} {φ : Fn1} (F : FnOk P w K mg base (L2.CX P w) k f fd [p] (spW P w K mg base TT kc 1 Φ)) (hT : Z.tabs = TT) (hk : k ≤ kc) (hkp : PySem.W.keepIn K (.ref f) = true) (hb : Binds K fd [p] [])
    (hφ : ∀ d R, φ d R → Φ [.d d] (fun y => match y with
      | .d x => R x
      | _ => False) (fun _ => False)) : Clb P w K mg base kc Z f φ := by
  refine ⟨.inl hkp, fun A outer s H ow u v d R Q E hr e0 gr rv hd hp hQ => ?_⟩
  have kin : K.In s.heap := e0.mod.kin.keeps fun b o e => (e0.bs b o e).1
  have b := hb s [u] kin rfl
  rw [List.append_nil] at b
  refine F.run A outer s H ⟨[u], []⟩ [u] [v] Q E (hr.mono hk) e0 b (.cons rv .nil) ⟨rfl, Z, ow, hT, [.d d], _, fun _ => False, gr, .cons hd .nil, rfl, hφ d R hp, fun y v' H' p e z h => ?_, fun _ _ _ _ z => z.elim⟩
  cases y with
  | d x => exact hQ x v' H' p e z h
  | own xs => exact (p : False).elim
  | bor xs => exact (p : False).elim
  | bag => exact (p : False).elim
  | fn f φ => exact (p : False).elim
/-- a call of what a slot holds -/
def wCallV (i : Nat) (w : WE) : WE := fun ρ P Ex => match ρ[i]? with
  | some (some (.fn f φ)) => w ρ (fun y => match y.kp with
    | some d => φ d fun x => P (.d x)
    | none => False) Ex
  | _ => False
theorem sim_callV (i : Nat) {x : Str} {p pos : Pos} {e : Expr} {we : WE} (hr : Room kc X.A) (h : SimE X W Z (Clb X.prog X.w X.K X.mg X.base kc Z) ow0 Hb e we) (tk : Takes X W) (hN : X.N[i]? = some x := by rfl) (hv : Vis X.env.scope x := by first | exact Or.inl rfl | exact Or.inr (Or.inl rfl) | exact Or.inr (Or.inr rfl))
    (hdb : (x == ("__debug__" : Str)) = false := by decide) (hcd : (x == ("__classdict__" : Str)) = false := by decide)
    (he : starEach [e] X.env = (false, eval e X.env) :: starEach [] X.env := by rfl) (hpl : (backTo pos (starEach [] X.env)).any (·.1) = false := by rfl) : SimE X W Z (Clb X.prog X.w X.K X.mg X.base kc Z) ow0 Hb (.Call (.Name x p) [e] [] pos) (wCallV i we) := by
  intro S ρ σ H ow R Ex Q r w g b
  unfold wCallV at w
  split at w
  · rename_i f φ hy
    obtain ⟨v, h1, rfl, hc⟩ := r.val i _ hy
    intro pins s I
    refine wpAny_Call_Name_kw (thn ((pe_var (pos := p) hN hv hdb hcd).run pins s σ H (fun v H1 => v = .ref f ∧ H1 = H) I ⟨.ref f, h1, rfl, rfl⟩) fun u s1 ⟨v, H1, I1, r1, q1⟩ => ?_)
    obtain ⟨rfl, rfl⟩ := q1
    cases r1
    have fin : ∀ (us : List Value) (s2 : Shared) (vs : List V) (H2 : Hp), Inv X pins σ H2 s2 → Vals vs us → (∃ v y d, vs = [v] ∧ RV (Clb X.prog X.w X.K X.mg X.base kc Z) Z X.K ow H1 H2 v y ∧ y.kp = some d ∧ (φ d fun x => R (.d x)) ∧ SameBut (fp Z) H1 H2 ∧ RZ Z H2) →
        wpAny (model X.prog X.w) X.A (call (.ref f) us) (EP X pins σ Q) X.xe s2 := fun us s2 vs H2 I2 rv ⟨v, y, d, ev, hv, hk, hφ, e2, z2⟩ => by
      subst ev
      obtain ⟨u, rfl, ru⟩ := rv.one
      refine wpAny_call (codeAny_mono (hc.run X.A X.stack s2 H2 ow u v d _ Q (L2.WE W σ) hr I2.env0 (r.gr.step e2 z2) ru (hv.kp hk) hφ fun x v' H' px e' z' h' => g (.d x) v' H' px (e2.trans e') z' h') fun r s' hq => ?_)
      cases r with
      | error e => exact passAt tk σ pins H2 s2 e s' I2 hq
      | ok fl =>
        cases fl with
        | ret u => exact I2.after hq
        | next => exact False.elim hq
        | brk => exact False.elim hq
        | cont => exact False.elim hq
    have harg : PAat X [e] σ H1 fun vs H2 => ∃ v y d, vs = [v] ∧ RV (Clb X.prog X.w X.K X.mg X.base kc Z) Z X.K ow H1 H2 v y ∧ y.kp = some d ∧ (φ d fun x => R (.d x)) ∧ SameBut (fp Z) H1 H2 ∧ RZ Z H2 := by
      refine PAat.of (pa_cons PEat.pe pa_nil he) (h S ρ σ H1 ow _ Ex _ r w (fun y v H2 p2 e2 z2 h2 => ?_) b)
      split at p2
      · rename_i d ed
        exact ⟨v, y, d, rfl, h2, ed, p2, e2, z2⟩
      · exact p2.elim
    rcases hc.keeps with hk | ⟨ψ, hF, hψ⟩
    · exact PySem.W.callWith_K (h₀ := X.base) I1.ok.mod.kin hk (thn (harg pos pins s1 I1) fun us s2 ⟨vs, H2, I2, rv, q⟩ => ⟨I2.kIn, fin us s2 vs H2 I2 rv q⟩) he hpl
    · have at_ : ∀ {H2 : Hp} {s2 : Shared}, Inv X pins σ H2 s2 → RZ Z H2 → PySem.W.FnAt f s2.heap := fun {H2 s2} I2 z2 => by
        obtain ⟨q, _⟩ := I2.hok f _ (z2.fns _ hF)
        exact hψ _ q
      exact PySem.W.callWith_F (at_ I1 r.gr.ext) (thn (harg pos pins s1 I1) fun us s2 ⟨vs, H2, I2, rv, q⟩ => ⟨at_ I2 q.choose_spec.choose_spec.choose_spec.2.2.2.2.2, fin us s2 vs H2 I2 rv q⟩) he hpl
  · exact w.elim
end
end Pd

/-! Pd11: defs that are entered with nothing being shown; an own exception without arguments raised. -/
namespace Pd
open PySem PySem.Spec PyProof.Rows L2
/-- a def's promise where no text is being made around the call -/
structure GnOk (P : Program) (w : World) (K : PySem.W.Frag) (mg : Str → Option Value) (base : Heap) (k : Nat) (f : Addr) (fd : FuncData) (ps : List Str) (sp : Sp) : Prop where
  len : ∀ vs H Q E, sp vs H Q E → vs.length = ps.length
  run : ∀ (A : Around) (outer : List Env) (s : Shared) (H : Hp) (args : Args) (us : List Value) (vs : List V) (Q : VK) (E : XK), A.guards = some [] → Room k A → Env0 P w K mg base A outer s H → BindsTo s fd args (ps.zip us) → Vals vs us → sp vs H Q E →
    codeAny (model P w) A (.call (.ref f) args) (CR (L2.CX P w) outer P w H s Q E) s
section
variable {P : Program} {w : World} {K : PySem.W.Frag} {mg : Str → Option Value} {base : Heap} {TT : List (Addr × Str)} {kc : Nat}
theorem GnOk.of {k : Nat} {f : Addr} {fd : FuncData} {ps : List Str} {sp : Sp} (F : FnOk P w K mg base (L2.CX P w) k f fd ps sp) : GnOk P w K mg base k f fd ps sp := ⟨F.len, fun A outer s H args us vs Q E _ hr e0 hb rv h => F.run A outer s H args us vs Q E hr e0 hb rv h⟩
theorem gn_raw {x qual : Str} {st : Stmt} {f : Addr} {fd : FuncData} {N ps : List Str} {k : Nat} {sp : Sp} (F : Fun K x qual st f fd) (S : FnScope N ps (defScope st)) (len : ∀ vs H Q E, sp vs H Q E → vs.length = ps.length)
    (hbody : ∀ (cdv : Value) (A : Around) (outer : List Env) (s : Shared) (H : Hp) (vs : List V) (Q : VK) (E : XK), A.guards = some [] → Room k (A.deeper (envOfC qual (defScope st) s.heap.objs.size f cdv)) → PySem.W.codeIn K cdv qual = true → sp vs H Q E →
      ∃ t, PSs (cxOf (L2.CX P w) P w K mg base N qual (defScope st) f cdv A outer s H E) (defBody st) t ∧ t { nx := fun _ H' => Q .non H', rt := Q } (L2.start N vs) H) : GnOk P w K mg base (k + 1) f fd ps sp := by
  obtain ⟨oc, od, kV, doc, pm, an, cdv, ct, osl, rfl, lk, hcd⟩ := F.ex
  exact ⟨len, fun A outer s H args us vs Q E hg hr e0 hb rv h => LamX.run_ofS lk hcd S hr e0 hb rv (len _ _ _ _ h) fun hr' => hbody cdv A outer s H vs Q E hg hr' hcd h⟩
/-- as fn_W -/
theorem gn_W {x qual : Str} {st : Stmt} {f : Addr} {fd : FuncData} {N ps : List Str} {k : Nat} {Φ : Fs} {wb : WS} (F : Fun K x qual st f fd) (S : FnScope N ps (defScope st))
    (hbody : ∀ (cdv : Value) (A : Around) (outer : List Env) (s : Shared) (H : Hp) (E : XK) (Z : Ext) (ow : List Addr), (A.deeper (envOfC qual (defScope st) s.heap.objs.size f cdv)).guards = some [] → Room k (A.deeper (envOfC qual (defScope st) s.heap.objs.size f cdv)) → PySem.W.codeIn K cdv qual = true → Z.tabs = TT → Gr Z ow H →
      SimSs (cxOf (L2.CX P w) P w K mg base N qual (defScope st) f cdv A outer s H E) (fun cls d _ H' => E cls d H') Z (Clb P w K mg base kc Z) ow H (defBody st) wb)
    (hv : ∀ ys R Ex, ys.length = ps.length → ys.all argOk = true → Φ ys R Ex → wb (endW R Ex) (start0 N ys)) : GnOk P w K mg base (k + 1) f fd ps (spW P w K mg base TT kc ps.length Φ) := by
  refine gn_raw F S (fun vs H Q E h => h.1) fun cdv A outer s H vs Q E hg hr hcd h => ?_
  obtain ⟨hl, Z, ow, hT, ys, R, Ex, gr, hy, ha, hΦ, hQ, hE⟩ := h
  refine ⟨_, PSsat.ps, ?_⟩
  refine hbody cdv A outer s H E Z ow hg hr hcd hT gr (hid ow H) (start0 N ys) _ H ow (endW R Ex) _ (rel_start gr hy ha) (hv ys R Ex (by rw [← hy.length]; exact hl) ha hΦ) ⟨fun ρ σ H' ow' p r => ?_, fun _ _ _ _ p _ => p.elim, fun _ _ _ _ p _ => p.elim, fun y v H' p e z h => hQ y v H' p e z h, fun x ρ σ H' ow' cls d p r er => ?_⟩
  · exact hQ (.d .none) .non H' p r.sb r.gr.ext .non
  · refine hE x cls d H' p ⟨er.1, fun n => ?_⟩ r.sb r.gr.ext
    obtain ⟨dx, fs, h1, h2, h3, h4⟩ := er.2 n
    exact ⟨dx, fs, h1, h2, h3, DtAll.mono (hid_less r.sub) h4⟩
end
section
variable {X : Cx} {W : WX} {Z : Ext} {CL : Calls} {ow0 : List Addr} {Hb : Hp} {TT : List (Addr × Str)} {kc : Nat}
theorem sim_callG {k : Nat} {f : Addr} {fd : FuncData} {ps : List Str} {Φ : Fs} {x : Str} {p pos : Pos} {e : Expr} {es : List Expr} {wa : WA} (F : GnOk X.prog X.w X.K X.mg X.base k f fd ps (spW X.prog X.w X.K X.mg X.base TT kc ps.length Φ)) (hT : Z.tabs = TT) (hgd : X.A.guards = some []) (hr : Room k X.A) (tk : Takes X W) (hg : Gl X x)
    (hm : X.mg x = some (.ref f)) (hk : PySem.W.keepIn X.K (.ref f) = true) (hb : Binds X.K fd ps []) (ha : SimA X W Z (Clb X.prog X.w X.K X.mg X.base kc Z) ow0 Hb (e :: es) wa)
    (hdb : (x == ("__debug__" : Str)) = false := by decide) (he : starEach (e :: es) X.env = (false, eval e X.env) :: starEach es X.env := by rfl) (hpl : (backTo pos (starEach es X.env)).any (·.1) = false := by rfl) :
    SimE X W Z (Clb X.prog X.w X.K X.mg X.base kc Z) ow0 Hb (.Call (.Name x p) (e :: es) [] pos) (wCall ps.length Φ wa) := by
  intro S ρ σ H ow R Ex Q r wq g b pins s I
  have fin : PAat X (e :: es) σ H fun vs H1 => spW X.prog X.w X.K X.mg X.base TT kc ps.length Φ vs H1 Q (L2.WE W σ) := by
    refine ha S ρ σ H ow _ _ _ r wq (fun ys vs H1 p1 e1 z1 h1 => ?_) b
    split at p1
    · rename_i as ea
      obtain ⟨hl, hΦ⟩ := p1
      obtain ⟨q1, q2, q3⟩ := h1.args ea
      exact ⟨by rw [h1.length, ← q3]; exact hl, Z, ow, hT, as, R, Ex, r.gr.step e1 z1, q1, q2, hΦ, g.step e1 r.gr.fpo, fun x cls d H' ex er s z => b x cls d H' ex er (e1.trans s) z⟩
    · exact p1.elim
  refine wpAny_Call_Name_kw (ld_glob I hg hm ?_ hdb)
  refine PySem.W.callWith_K (h₀ := X.base) I.ok.mod.kin hk (thn (fin pos pins s I) fun us s1 ⟨vs, H1, I1, rv, q⟩ => ⟨I1.kIn, ?_⟩) he hpl
  have hl : us.length = ps.length := by rw [← rv.length]; exact F.len _ _ _ _ q
  have b' := hb s1 us I1.kIn (by rw [List.append_nil]; exact hl)
  rw [List.append_nil] at b'
  refine wpAny_call (codeAny_mono (F.run X.A X.stack s1 H1 ⟨us, []⟩ us vs Q (L2.WE W σ) hgd hr I1.env0 b' rv q) fun r s' hq => ?_)
  cases r with
  | error e => exact passAt tk σ pins H1 s1 e s' I1 hq
  | ok fl =>
    cases fl with
    | ret u => exact I1.after hq
    | next => exact False.elim hq
    | brk => exact False.elim hq
    | cont => exact False.elim hq
/-- an own exception without fields of its own -/
structure XCls (K : PySem.W.Frag) (mg : Str → Option Value) (x : Str) : Prop where
  ex : ∃ (C : Addr) (B newId initId : String) (bmB : List Value), ExcBaseFacts B newId initId bmB ∧ PySem.W.excIn K C bmB newId = true ∧ mg x = some (.ref C) ∧ PySem.W.keepIn K (.ref C) = true ∧ PySem.W.subIn K (.ref C) (.type "BaseException") = some true ∧ PySem.W.typeIn K (.ref C) = some (.type "type")
theorem pmk_own0 {C : Addr} {bmB : List Value} {B newId initId : String} {x : Str} {p pos : Pos} (F : ExcBaseFacts B newId initId bmB) (q : PySem.W.excIn X.K C bmB newId = true) (gC : X.mg x = some (.ref C)) (kC : PySem.W.keepIn X.K (.ref C) = true) (r : Raises X (.ref C)) (hg : Gl X x)
    (hdb : (x == ("__debug__" : Str)) = false := by decide) : PMk X (.Call (.Name x p) [] [] pos) (fun _ H Q => Q (.ref C) none H) := by
  intro pins s σ H Q I h
  refine wpAny_Call_Name_kw (ld_glob I hg gC (PySem.W.callWith_K0 I.kIn kC ?_) hdb)
  obtain ⟨bm, N, nm, qn, bs, hdct, sn, sub, ab, col, dd, k0, k1, k2, k3, k5, mN, hC, hN, hni, T⟩ := exc_obj I.kIn q
  exact wpAny_call_exc_subT F T hC hN hni (fun h' e hm => mk_of I hm r h (I.hok.gone hm.new)) (Nat.zero_le _)
/-- raise X() -/
def wRaise0 (x : Str) : WS := fun E ρ => E.ex ⟨x, []⟩ ρ
theorem sim_raise0 {x : Str} {p pos pos' : Pos} (hc : X.calm = true) (tk : Takes X W) (hx : XCls X.K X.mg x) (hg : Gl X x) (hdb : (x == ("__debug__" : Str)) = false := by decide) : SimS X W Z CL ow0 Hb (.Raise (some (.Call (.Name x p) [] [] pos)) none pos') (wRaise0 x) := by
  intro S ρ σ H ow E D r w o
  obtain ⟨C, B, newId, initId, bmB, F, q, gC, kC, h1, h2⟩ := hx.ex
  exact PSat.of (ps_raise hc tk (pmk_own0 F q gC kC (raises_own h1 h2) hg hdb)) (o.ex ⟨x, []⟩ ρ σ H ow (.ref C) none w r ⟨⟨C, gC, rfl⟩, fun n => (n rfl).elim⟩)
end
end Pd

/-! Pd12: a lambda of one parameter that captures nothing, handed to a def. -/
namespace Pd
open PySem PySem.Spec PyProof.Rows L2
/-- what stands at f: the lambda of these words -/
def LamP (f : Addr) (qual : Str) (params : Arguments) (body : Expr) (scope : Scope) (cl : List (Str × Addr)) (c' : Addr) : Heap → Prop := fun h => ∃ pm ctv, h.get? f = some (PySem.W.kla_obj "<lambda>" qual params body scope cl pm c' ctv)
/-- what stands at c: a code object -/
def CdP (c : Addr) (q : Str) : Heap → Prop := match LamX.CodeO c q with
  | .ext φ => φ
  | _ => fun _ => False
section
variable {X : Cx} {pins : List (Addr × Obj)} {σ : L2.St} {H : Hp} {s : Shared}
theorem lam_tracked {qual : Str} {params : Arguments} {body : Expr} {scope : Scope} {cl : List (Str × Addr)} {c' : Addr} {pm ctv : Value} {t' : Nat} (I : Inv X pins σ H s) :
    Inv X pins σ (upd H s.heap.objs.size (.ext (LamP s.heap.objs.size qual params body scope cl c'))) { s with heap := s.heap.push (PySem.W.kla_obj "<lambda>" qual params body scope cl pm c' ctv), toks := t' } := by
  have here : (s.heap.push (PySem.W.kla_obj "<lambda>" qual params body scope cl pm c' ctv)).get? s.heap.objs.size = some (PySem.W.kla_obj "<lambda>" qual params body scope cl pm c' ctv) := Heap.get?_push_size _ rfl
  exact I.laid (fun b u e => Heap.get?_push_of_some _ e) (Nat.le_refl _) ⟨⟨pm, ctv, here⟩, ⟨_, here⟩, fun h1 h2 ⟨pm, ctv, z⟩ st => ⟨pm, ctv, st _ z⟩⟩
/-- a lambda is made, and known from then on -/
theorem lam_made {T : List (Addr × Str)} {c P : Addr} {params : Arguments} {body : Expr} {scope : Scope} {pos : Pos} {E Q : Value → Shared → Prop} (I : Inv X pins σ H s) (TB : LamX.TabB X.base X.mg c P) (hcode : X.env.code = .ref c) (hm : (P, X.env.qual ++ "<lambda>") ∈ T)
    (hu : ∀ p ∈ T, p.1 = P → p.2 = X.env.qual ++ "<lambda>") (hT : LamX.Tabs T H) (hdef : defaultsOf params X.env = ([], [])) (hfree : ∀ y ∈ scope.names, y.2 = .free → ∃ c, X.env.cells.lookup y.1 = some c)
    (done : ∀ (f c' : Addr) (H1 : Hp) (s' : Shared), Inv X pins σ H1 s' → LamX.ExtN H H1 → LamX.Tabs T H1 → H f = none → H c' = none ∨ H c' = some (LamX.CodeO c' (X.env.qual ++ "<lambda>")) →
      H1 f = some (.ext (LamP f (X.env.qual ++ "<lambda>") params body scope (cloFrom X.env.cells scope.names []) c')) → H1 c' = some (LamX.CodeO c' (X.env.qual ++ "<lambda>")) → Q (.ref f) s') :
    wpAny (model X.prog X.w) X.A (eval (.Lambda params body scope pos) X.env) Q E s := by
  refine PySem.W.kla_eval hdef ?_
  obtain ⟨tab, tabAt, tabOk, tabHas⟩ := hT _ hm
  have tabObj := I.hok P _ tabAt
  have glob := I.mod.glob.keeps I.bk
  have hd := TB.code.keeps I.bk
  have bm : s.heap.BuiltinsAt X.mg P := TB.bm.keeps I.bk
  -- what was told by H1 is told by H1 with the lambda's place
  have grow : ∀ {G : Hp} {f : Addr} {o : HO}, G f = none → LamX.ExtN G (upd G f o) ∧ ∀ b u, G b = some u → upd G f o b = some u := fun {G f o} n => ⟨fun b u e _ => (upd_ne (ne_of_none e n)).trans e, fun b u e => (upd_ne (ne_of_none e n)).trans e⟩
  rcases hfound : codeAmong pos tab.toList with _ | cv
  · refine PySem.W.kla_makeFunction (closure_ok hfree) I.ok.glob glob hcode hd tabObj tabOk hfound TB.gP bm fun c' ctv h' tk kept above below isCode tabNow => ?_
    obtain ⟨_, oc, fields, tok, e, ocAt, ocData, ocName⟩ := isCode
    cases e
    have noC : H c' = none := I.hok.fresh above
    have J := LamX.inv_table (q := X.env.qual ++ "<lambda>") (t' := tk) I tabAt (fun b o n => kept b o n) tabNow above ⟨oc, fields, tok, ocAt, ocData, ocName⟩
    have noF := J.hok.fresh (Nat.le_refl h'.objs.size)
    have old : LamX.ExtN H (upd (upd H P (.tbl (tab ++ #[rawInt pos.line, rawInt pos.col, .ref c']))) c' (LamX.CodeO c' (X.env.qual ++ "<lambda>"))) := fun b o e n =>
      (upd_ne (ne_of_none e noC)).trans ((upd_ne fun z => n tab (Option.some.inj (by rw [← e, z, tabAt]))).trans e)
    have tabs : LamX.Tabs T (upd (upd H P (.tbl (tab ++ #[rawInt pos.line, rawInt pos.col, .ref c']))) c' (LamX.CodeO c' (X.env.qual ++ "<lambda>"))) := by
      intro p hp
      by_cases same : p.1 = P
      · rw [hu p hp same, same]
        have split3 : (tab ++ #[rawInt pos.line, rawInt pos.col, .ref c']).toList = tab.toList ++ [rawInt pos.line, rawInt pos.col, .ref c'] := by simp
        refine ⟨tab ++ #[rawInt pos.line, rawInt pos.col, .ref c'], (upd_ne (ne_of_none tabAt noC)).trans upd_same, by rw [split3]; exact PySem.TriplesOk_snoc _ _ _ _ tabOk, ?_⟩
        intro at_ v hv
        rw [split3] at hv
        rcases LamX.among_app _ tabOk hv with z | rfl
        · obtain ⟨c0, e1, e2⟩ := tabHas at_ v z
          exact ⟨c0, e1, old _ _ e2 LamX.codeO_ne⟩
        · exact ⟨c', rfl, upd_same⟩
      · obtain ⟨tb, a1, a2, a3⟩ := hT p hp
        refine ⟨tb, (upd_ne (ne_of_none a1 noC)).trans ((upd_ne same).trans a1), a2, fun at_ v hv => ?_⟩
        obtain ⟨c0, e1, e2⟩ := a3 at_ v hv
        exact ⟨c0, e1, old _ _ e2 LamX.codeO_ne⟩
    have J2 := lam_tracked (qual := X.env.qual ++ "<lambda>") (params := params) (body := body) (scope := scope) (cl := cloFrom X.env.cells scope.names []) (c' := c') (pm := (X.mg "__name__").getD .none) (ctv := ctv) (t' := tk) J
    have fOld : H h'.objs.size = none := by
      cases q : H h'.objs.size with
      | none => rfl
      | some o =>
        have := (I.hok _ o q).lt
        exact absurd (Nat.lt_of_lt_of_le this (Nat.le_of_lt (Nat.lt_of_le_of_lt above below))) (Nat.lt_irrefl _)
    exact done _ c' _ _ J2 (old.trans (grow noF).1) (tabs.ext (grow noF).2) fOld (.inl noC) upd_same ((grow noF).2 _ _ upd_same)
  · obtain ⟨c', rfl, known⟩ := tabHas pos cv hfound
    refine PySem.W.kla_makeFunctionHit (closure_ok hfree) I.ok.glob glob hcode hd tabObj tabOk hfound bm fun ctv h' tk kept size => ?_
    have J : Inv X pins σ H { s with heap := h', toks := tk } := I.kept kept
    have noF : H h'.objs.size = none := J.hok.fresh (Nat.le_refl _)
    have J2 := lam_tracked (qual := X.env.qual ++ "<lambda>") (params := params) (body := body) (scope := scope) (cl := cloFrom X.env.cells scope.names []) (c' := c') (pm := (X.mg "__name__").getD .none) (ctv := ctv) (t' := tk) J
    exact done _ c' _ _ J2 (grow noF).1 (hT.ext (grow noF).2) noF (.inr known) upd_same ((grow noF).2 _ _ known)
end

/-! ### as a callable -/
def Ext.plus (Z : Ext) (l : List (Addr × (Heap → Prop))) : Ext := { Z with fns := l ++ Z.fns }
theorem RB.lists {z : Option (Addr × Addr)} {H : Hp} (h : RB z H) : ∀ a ∈ fpB z, ∃ us, H a = some (.lst us) := by
  cases z with
  | none => intro a m; simp [fpB] at m
  | some z =>
    obtain ⟨b, c⟩ := z
    obtain ⟨b0, b1, b2, cs, h1, h2, _⟩ := h
    intro a m
    simp [fpB] at m
    rcases m with rfl | rfl
    · exact ⟨_, h1⟩
    · exact ⟨_, h2⟩
theorem RZ.minus {Z : Ext} {l : List (Addr × (Heap → Prop))} {H : Hp} (h : RZ (Z.plus l) H) : RZ Z H := ⟨h.bag, h.tabs, fun p m => h.fns p (List.mem_append_right _ m)⟩
theorem RZ.plus {Z : Ext} {l : List (Addr × (Heap → Prop))} {H : Hp} (h : RZ Z H) (hl : ∀ p ∈ l, H p.1 = some (.ext p.2)) : RZ (Z.plus l) H := ⟨h.bag, h.tabs, fun p m => (List.mem_append.mp m).elim (hl p) (h.fns p)⟩
theorem RZ.again {Z : Ext} {l : List (Addr × (Heap → Prop))} {H H' : Hp} (h0 : RZ (Z.plus l) H) (e : SameBut (fp Z) H H') (h : RZ Z H') : RZ (Z.plus l) H' := h.plus fun p m => by
  have q := h0.fns p (List.mem_append_left _ m)
  refine e _ _ (fun z => ?_) (fun ps z => by cases z) q
  obtain ⟨us, e'⟩ := h0.bag.lists _ z
  rw [q] at e'
  cases e'
theorem Gr.minus {Z : Ext} {l : List (Addr × (Heap → Prop))} {ow : List Addr} {H : Hp} (g : Gr (Z.plus l) ow H) : Gr Z ow H := ⟨g.ext.minus, g.fpo, g.isS⟩
theorem Clb.grow {P : Program} {w : World} {K : PySem.W.Frag} {mg : Str → Option Value} {base : Heap} {kc : Nat} {Z : Ext} {l : List (Addr × (Heap → Prop))} {f : Addr} {φ : Fn1} (h : Clb P w K mg base kc Z f φ) : Clb P w K mg base kc (Z.plus l) f φ := by
  refine ⟨h.keeps.imp id fun ⟨ψ, m, q⟩ => ⟨ψ, List.mem_append_right _ m, q⟩, fun A outer s H ow u v d R Q E hr e0 gr rv hd hp hQ => ?_⟩
  exact h.run A outer s H ow u v d R Q E hr e0 gr.minus rv hd hp fun x v' H' p e z hx => hQ x v' H' p e (gr.ext.again e z) hx
/-- the words of a lambda, for its context -/
abbrev lamNF (qual : Str) (params : Arguments) (scope : Scope) (c' : Addr) : NdefX.NF := ⟨"<lambda>", qual, params, [], scope, [], c'⟩
theorem Clb.ofLam {P : Program} {w : World} {K : PySem.W.Frag} {mg : Str → Option Value} {base : Heap} {kc j : Nat} {Z : Ext} {f c' : Addr} {qual p : Str} {params : Arguments} {body : Expr} {scope : Scope} {N : List Str} {we : WE} (hj : j + 1 ≤ kc) (S : NdefX.NScope N [p] [] scope)
    (hbind : ∀ (u : Value) (pm cv ctv : Value), bindArgs (PySem.W.kla_fn "<lambda>" qual params body scope [] pm cv ctv) ⟨[u], []⟩ = pure [(p, u)]) (hf : (f, LamP f qual params body scope [] c') ∈ Z.fns) (hc : (c', CdP c' qual) ∈ Z.fns)
    (hbody : ∀ (A : Around) (outer : List Env) (s : Shared) (H : Hp) (E : XK) (ow : List Addr), Room j (A.deeper (NdefX.envF (lamNF qual params scope c') f s.heap.objs.size)) → Gr Z ow H →
      SimE (NdefX.ncx (L2.CX P w) P w K mg base N (lamNF qual params scope c') f A outer s H E) (fun cls d _ H' => E cls d H') Z (Clb P w K mg base kc Z) ow H body we) :
    Clb P w K mg base kc Z f fun d R => we (start0 N [.d d]) (fun y => match y.kp with
      | some x => R x
      | none => False) fun _ => False := by
  refine ⟨.inr ⟨_, hf, fun h ⟨pm, ctv, e⟩ => ⟨_, _, _, _, e⟩⟩, fun A outer s H ow u v d R Q E hr e0 gr rv hd hp hQ => ?_⟩
  obtain ⟨⟨pm, ctv, ho⟩, _⟩ := e0.hok f _ (gr.ext.fns _ hf)
  have hcode := NdefX.codeO_at e0.hok (show H c' = some (LamX.CodeO c' qual) from gr.ext.fns _ hc)
  have lim : s.heap.NoLimit := e0.mod.nolimit.keeps fun b o e => (e0.bs b o e).1
  refine PySem.W.kla_callFunE hr.depth ho rfl S.co S.gen rfl hcode ?_
  rw [hbind]
  refine wpAny_pure (wpAny_newFunctionEnv S.nocell (fun y hy => ?_) (fun h₁ hns hsb => ⟨lim.fresh _ hsb, ?_⟩) S.kind)
  · simp only [List.mem_singleton] at hy
    subst hy
    exact S.par p (by simp)
  show codeAny _ _ (.expr body (NdefX.envF (lamNF qual params scope c') f s.heap.objs.size)) _ _
  have kp : ∀ b o, s.heap.get? b = some o → h₁.get? b = some o := fun b o e => hsb.extBut b o (Nat.ne_of_lt (Heap.lt_size e)) (Heap.get?_push_of_some _ e)
  have J : Inv (NdefX.ncx (L2.CX P w) P w K mg base N (lamNF qual params scope c') f A outer s H E) [] (NdefX.startF N [v] []) H { s with heap := h₁, toks := s.toks + [(p, u)].length } :=
    NdefX.inv_startN (ps := [p]) (fr := []) (us := [u]) S hr.hd e0 rfl (.cons rv .nil) ⟨rfl, fun y c e => (nomatch e), fun x y c e => (nomatch e), fun i y e => by simp at e⟩ hns kp
  have e1 : NdefX.startF N [v] [] = L2.start N [v] := by simp [NdefX.startF, L2.start]
  rw [e1] at J
  have rel := rel_start (CL := Clb P w K mg base kc Z) (N := N) gr (RVs.cons (y := .d d) hd .nil) rfl
  refine PySem.W.kla_codeExpr (wpAny_mono (hbody A outer s H E ow ((hr.mono hj).deeper _) gr (hid ow H) _ _ H ow _ _ Q rel hp (fun y v' H' p e z q => ?_) (fun _ _ _ _ z => z.elim) [] _ J) (fun v' s' hq => ?_) fun e s' hq => hq)
  · dsimp only at p
    split at p
    · rename_i x ex
      exact hQ x v' H' p e z (q.kp ex)
    · exact p.elim
  · obtain ⟨w', H', J', rv', q⟩ := hq
    exact ⟨w', H', J'.os, J'.bare, J'.base, J'.hok, rv', q⟩

/-! ### x(e, lambda p: body) -/
def noFn : Val → Bool
  | .fn _ _ => false
  | _ => true
def wCallL (Φ : Fs) (φ : Fn1) (w : WE) : WE := fun ρ P Ex => w ρ (fun y => match toArg y with
  | some a => ∀ f, Φ [a, .fn f φ] (fun z => noFn z = true ∧ P z) Ex
  | none => False) Ex
section
variable {X : Cx} {W : WX} {Z : Ext} {ow0 : List Addr} {Hb : Hp} {TT : List (Addr × Str)} {kc : Nat}
theorem RV.noFn {CL CL' : Calls} {l : List (Addr × (Heap → Prop))} {K : PySem.W.Frag} {ow : List Addr} {H0 H : Hp} {v : V} {y : Val} (h : RV CL (Z.plus l) K ow H0 H v y) (n : noFn y = true) : RV CL' Z K ow H0 H v y := by
  cases y with
  | fn f φ => cases n
  | d x => exact h
  | own xs => exact h
  | bor xs => exact h
  | bag => exact h
theorem extN_same {fp : List Addr} {H H' : Hp} (e : LamX.ExtN H H') : SameBut fp H H' := fun a o _ t q => e a o q t
theorem RZ.extN {H H' : Hp} (h : RZ Z H) (e : LamX.ExtN H H') (t : LamX.Tabs Z.tabs H') : RZ Z H' := ⟨h.bag.frame fun a m => by
  obtain ⟨us, q⟩ := h.bag.lists a m
  rw [q, e a _ q nt_lst], t, fun p m => e _ _ (h.fns p m) fun ps z => by cases z⟩
theorem sim_callL {k : Nat} {f : Addr} {fd : FuncData} {ps : List Str} {Φ : Fs} {x p : Str} {xp pos lpos : Pos} {e body : Expr} {params : Arguments} {scope : Scope} {c P : Addr} {N : List Str} {we wb : WE} {j : Nat} (F : FnOk X.prog X.w X.K X.mg X.base (L2.CX X.prog X.w) k f fd ps (spW X.prog X.w X.K X.mg X.base TT kc 2 Φ)) (hps : ps.length = 2) (hT : Z.tabs = TT) (hr : Room k X.A) (tk : Takes X W) (hg : Gl X x)
    (hm : X.mg x = some (.ref f)) (hk : PySem.W.keepIn X.K (.ref f) = true) (hb : Binds X.K fd ps []) (he : SimE X W Z (Clb X.prog X.w X.K X.mg X.base kc Z) ow0 Hb e we)
    (TB : LamX.TabB X.base X.mg c P) (hcode : X.env.code = .ref c) (hmT : (P, X.env.qual ++ "<lambda>") ∈ Z.tabs) (hu : ∀ p ∈ Z.tabs, p.1 = P → p.2 = X.env.qual ++ "<lambda>") (hj : j + 1 ≤ kc) (SN : NdefX.NScope N [p] [] scope) (hdef : defaultsOf params X.env = ([], [])) (hcl : ∀ cells, cloFrom cells scope.names [] = [])
    (hbind : ∀ (qual : Str) (u : Value) (pm cv ctv : Value), bindArgs (PySem.W.kla_fn "<lambda>" qual params body scope [] pm cv ctv) ⟨[u], []⟩ = pure [(p, u)])
    (hbody : ∀ (Z' : Ext) (f' c' : Addr) (A : Around) (outer : List Env) (s : Shared) (H : Hp) (E : XK) (ow : List Addr), Z'.tabs = TT → Room j (A.deeper (NdefX.envF (lamNF (X.env.qual ++ "<lambda>") params scope c') f' s.heap.objs.size)) → Gr Z' ow H →
      SimE (NdefX.ncx (L2.CX X.prog X.w) X.prog X.w X.K X.mg X.base N (lamNF (X.env.qual ++ "<lambda>") params scope c') f' A outer s H E) (fun cls d _ H' => E cls d H') Z' (Clb X.prog X.w X.K X.mg X.base kc Z') ow H body wb)
    (hdb : (x == ("__debug__" : Str)) = false := by decide) (hs : starEach [e, .Lambda params body scope lpos] X.env = (false, eval e X.env) :: starEach [.Lambda params body scope lpos] X.env := by rfl) (hpl : (backTo pos (starEach [.Lambda params body scope lpos] X.env)).any (·.1) = false := by rfl)
    (hs2 : starEach [.Lambda params body scope lpos] X.env = (false, eval (.Lambda params body scope lpos) X.env) :: starEach [] X.env := by rfl) :
    SimE X W Z (Clb X.prog X.w X.K X.mg X.base kc Z) ow0 Hb (.Call (.Name x xp) [e, .Lambda params body scope lpos] [] pos)
      (wCallL Φ (fun d R => wb (start0 N [.d d]) (fun y => match y.kp with
        | some x => R x
        | none => False) fun _ => False) we) := by
  intro S ρ σ H ow R Ex Q r wq g b pins s I
  have hfree : ∀ y ∈ scope.names, y.2 = .free → ∃ c, X.env.cells.lookup y.1 = some c := fun y hy z => absurd (SN.free y hy z) (by simp)
  refine wpAny_Call_Name_kw (ld_glob I hg hm ?_ hdb)
  refine PySem.W.callWith_K (h₀ := X.base) I.ok.mod.kin hk ?_ hs hpl
  have hargs : PAat X [e, .Lambda params body scope lpos] σ H fun vs H1 => spW X.prog X.w X.K X.mg X.base TT kc 2 Φ vs H1 Q (L2.WE W σ) := by
    refine PAat.of (pa_cons PEat.pe PAat.pa hs) (he S ρ σ H ow _ _ _ r wq (fun y v H1 p1 e1 z1 h1 => ?_) b)
    intro pos' pins' s1 I1
    rw [hs2]
    show wpAny _ _ (spliced ((false, eval (.Lambda params body scope lpos) X.env) :: backTo pos' (starEach [] X.env))) _ _ s1
    refine Calls.spliced_cons (lam_made I1 TB hcode hmT hu z1.tabs hdef hfree fun f' c' H2 s2 I2 eN T2 nf nc hf hc => ?_)
    refine Calls.spliced_nil ⟨[.ref f'], H2, I2, .cons rfl .nil, ?_⟩
    rw [hcl] at hf
    split at p1
    · rename_i a ea
      have zz : RZ Z H2 := z1.extN eN T2
      have e2 : SameBut (fp Z) H1 H2 := extN_same eN
      let l : List (Addr × (Heap → Prop)) := [(f', LamP f' (X.env.qual ++ "<lambda>") params body scope [] c'), (c', CdP c' (X.env.qual ++ "<lambda>"))]
      have zp : RZ (Z.plus l) H2 := zz.plus fun p m => by
        simp only [l, List.mem_cons, List.not_mem_nil, or_false] at m
        rcases m with rfl | rfl
        · exact hf
        · exact hc
      have gr2 := r.gr.step (e1.trans e2) zz
      have h2 := h1.stay e2 r.gr.fpo
      obtain ⟨q1, q2⟩ := h2.arg ea
      have q1' : RV (Clb X.prog X.w X.K X.mg X.base kc (Z.plus l)) (Z.plus l) X.K ow H2 H2 v a := by
        cases a with
        | fn f φ => exact ⟨q1.1, q1.2.grow⟩
        | d x => exact q1
        | own xs => cases q2
        | bor xs => cases q2
        | bag => exact q1
      have callable := Clb.ofLam (P := X.prog) (w := X.w) (K := X.K) (mg := X.mg) (base := X.base) (Z := Z.plus l) (f := f') (c' := c') (qual := X.env.qual ++ "<lambda>") (we := wb) hj SN (hbind _) (List.mem_append_left _ List.mem_cons_self) (List.mem_append_left _ (List.mem_cons_of_mem _ List.mem_cons_self))
        fun A outer s H E ow hr gr => hbody (Z.plus l) f' c' A outer s H E ow hT hr gr
      refine ⟨rfl, Z.plus l, ow, hT, [a, .fn f' _], _, Ex, ⟨zp, gr2.fpo, gr2.isS⟩, .cons q1' (.cons ⟨rfl, callable⟩ .nil), by show (argOk a && (true && true)) = true; rw [q2]; rfl, p1 f', fun y v' H' pz e3 z3 h3 => ?_, fun x cls d H' ex er s3 z3 => ?_⟩
      · exact g y v' H' pz.2 ((e1.trans e2).trans e3) z3.minus ((h3.noFn pz.1).back (e1.trans e2) r.gr.fpo)
      · exact b x cls d H' ex er ((e1.trans e2).trans s3) z3.minus
    · exact p1.elim
  refine thn (hargs pos pins s I) fun us s1 ⟨vs, H1, I1, rv, q⟩ => ⟨I1.kIn, ?_⟩
  have hl : us.length = ps.length := by rw [← rv.length, hps]; exact q.1
  have b' := hb s1 us I1.kIn (by rw [List.append_nil]; exact hl)
  rw [List.append_nil] at b'
  refine wpAny_call (codeAny_mono (F.run X.A X.stack s1 H1 ⟨us, []⟩ us vs Q (L2.WE W σ) hr I1.env0 b' rv q) fun r s' hq => ?_)
  cases r with
  | error e => exact passAt tk σ pins H1 s1 e s' I1 hq
  | ok fl =>
    cases fl with
    | ret u => exact I1.after hq
    | next => exact False.elim hq
    | brk => exact False.elim hq
    | cont => exact False.elim hq
end
end Pd

/-! Pd13: the law's bag. -/
namespace Pd
open PySem PySem.Spec PyProof.Rows L2
/-- what lies at the bag's place k -/
def bagOk (k z : Int) : Prop := 0 ≤ z ∧ (k = 1 → z < 2147483648)
section
variable {X : Cx} {W : WX} {Z : Ext} {CL : Calls} {ow0 : List Addr} {Hb : Hp}
theorem RZ.bagAt {H : Hp} (h : RZ Z H) {b c : Addr} (e : Z.bag = some (b, c)) : BagAt H b c := by
  have q := h.bag
  rw [e] at q
  exact q
theorem RZ.bagPut {H : Hp} {b c : Addr} {us vs : List V} (h : RZ Z H) (e : Z.bag = some (b, c)) (hb : H b = some (.lst us)) (n : BagAt (L2.upd H b (.lst vs)) b c) : RZ Z (L2.upd H b (.lst vs)) := by
  refine ⟨by rw [e]; exact n, fun t ht => ?_, fun p m => ?_⟩
  · obtain ⟨ps, h1, h2, h3⟩ := h.tabs t ht
    refine ⟨ps, (upd_ne (ne_of h1 hb (by intro z; cases z))).trans h1, h2, fun pos cv hc => ?_⟩
    obtain ⟨d, e1, e2⟩ := h3 pos cv hc
    exact ⟨d, e1, (upd_ne (ne_of e2 hb (by intro z; unfold LamX.CodeO at z; cases z))).trans e2⟩
  · exact (upd_ne (ne_of (h.fns p m) hb (by intro z; cases z))).trans (h.fns p m)
theorem same_in {fp : List Addr} {H : Hp} {b : Addr} {o : HO} (m : b ∈ fp) : SameBut fp H (upd H b o) := fun a u n _ q => by
  have ne : a ≠ b := fun e => n (by rw [e]; exact m)
  rw [upd_ne ne]
  exact q
theorem bag_fp {b c : Addr} (e : Z.bag = some (b, c)) : b ∈ fp Z := by
  unfold fp
  rw [e]
  exact List.mem_cons_self
theorem Rel.bag {S : Hp} {ρ : Ev} {σ : L2.St} {H : Hp} {ow : List Addr} {i : Nat} (r : Rel CL Z X.K ow0 Hb S ρ σ H ow) (h : ρ[i]? = some (some .bag)) : ∃ b c, σ[i]? = some (some (.ref b)) ∧ Z.bag = some (b, c) ∧ BagAt H b c := by
  obtain ⟨v, h1, b, c, e, rfl⟩ := r.val i _ h
  exact ⟨b, c, h1, e, r.gr.ext.bagAt e⟩
/-- bag[k] -/
def wBag (i : Nat) (k : Int) : WE := fun ρ P _ => ρ[i]? = some (some .bag) ∧ ∀ z, bagOk k z → P (.d (.int z))
theorem bag_at {H : Hp} {b c : Addr} {k : Int} (h : BagAt H b c) (hk : k = 0 ∨ k = 1 ∨ k = 2) : ∃ z us, H b = some (.lst us) ∧ atI us k = some (.int z) ∧ bagOk k z := by
  obtain ⟨b0, b1, b2, cs, h1, h2, g0, g1, g1', g2, _⟩ := h
  rcases hk with rfl | rfl | rfl
  · exact ⟨b0, _, h1, rfl, g0, fun z => by cases z⟩
  · exact ⟨b1, _, h1, rfl, g1, fun _ => g1'⟩
  · exact ⟨b2, _, h1, rfl, g2, fun z => by cases z⟩
theorem sim_bag (i : Nat) {k : Int} {x : Str} {xp ip pos : Pos} {j : Nat} (hk : k = 0 ∨ k = 1 ∨ k = 2) (hN : X.N[i]? = some x := by rfl) (hv : Vis X.env.scope x := by first | exact Or.inl rfl | exact Or.inr (Or.inl rfl) | exact Or.inr (Or.inr rfl))
    (hd : (x == ("__debug__" : Str)) = false := by decide) (hcd : (x == ("__classdict__" : Str)) = false := by decide) (hs : PlainIx (.Constant (.int k) j ip) := by intro _ _; rfl) : SimE X W Z CL ow0 Hb (.Subscript (.Name x xp) (.Constant (.int k) j ip) pos) (wBag i k) := by
  intro S ρ σ H ow P Ex Q r w g bd
  obtain ⟨b, c, h1, e, ha⟩ := r.bag w.1
  obtain ⟨z, us, h2, h3, h4⟩ := bag_at ha hk
  exact PEat.of (pe_ix ix_list (pe_var hN hv hd hcd) pe_int hs) ⟨.ref b, h1, b, us, k, .int z, rfl, rfl, .inl (.of h2), h3, g.sc (w.2 z h4) r.gr.ext fun _ => .int z⟩
/-- written -/
theorem bag_set {H : Hp} {b c : Addr} {k z : Int} (h : BagAt H b c) (hk : k = 0 ∨ k = 1 ∨ k = 2) (hz : bagOk k z) : ∃ us j, H b = some (.lst us) ∧ ixN us.length k = some j ∧ BagAt (upd H b (.lst (us.set j (.int z)))) b c := by
  obtain ⟨b0, b1, b2, cs, h1, h2, g0, g1, g1', g2, g3, gl, ne⟩ := h
  have h2' : ∀ o, upd H b o c = some (.lst (cs.map V.int)) := fun o => by rw [upd_ne (Ne.symm ne)]; exact h2
  rcases hk with rfl | rfl | rfl
  · exact ⟨_, 0, h1, rfl, z, b1, b2, cs, upd_same, h2' _, hz.1, g1, g1', g2, g3, gl, ne⟩
  · exact ⟨_, 1, h1, rfl, b0, z, b2, cs, upd_same, h2' _, g0, hz.1, hz.2 rfl, g2, g3, gl, ne⟩
  · exact ⟨_, 2, h1, rfl, b0, b1, z, cs, upd_same, h2' _, g0, g1, g1', hz.1, g3, gl, ne⟩
def wBagSet (i : Nat) (k : Int) (w : WE) : WS := fun E ρ => ρ[i]? = some (some .bag) ∧ w ρ (fun y => match y with
  | .d (.int z) => bagOk k z ∧ E.nx ρ
  | _ => False) (fun x => E.ex x ρ)
theorem sim_bagset (i : Nat) {k : Int} {x : Str} {xp ip tp pos : Pos} {j : Nat} {e : Expr} {we : WE} (hk : k = 0 ∨ k = 1 ∨ k = 2) (h : SimE X W Z CL ow0 Hb e we) (hN : X.N[i]? = some x := by rfl) (hv : Vis X.env.scope x := by first | exact Or.inl rfl | exact Or.inr (Or.inl rfl) | exact Or.inr (Or.inr rfl))
    (hd : (x == ("__debug__" : Str)) = false := by decide) (hcd : (x == ("__classdict__" : Str)) = false := by decide)
    (hs : swapsWithSole [.Subscript (.Name x xp) (.Constant (.int k) j ip) tp] e pos.line X.env = pure false := by rfl) (hw : swappedStores [.Subscript (.Name x xp) (.Constant (.int k) j ip) tp] e X.env = pure none := by rfl) :
    SimS X W Z CL ow0 Hb (.Assign [.Subscript (.Name x xp) (.Constant (.int k) j ip) tp] e pos) (wBagSet i k we) := by
  intro S ρ σ H ow E D r w o
  refine PSat.of (ps_asg PEat.pe (pg_sub (pe_var hN hv hd hcd) pe_int set_list) hs hw) ?_
  refine h S ρ σ H ow _ _ _ r w.2 (fun y v H1 p1 e1 z1 h1 => ?_) (o.bd r)
  have r1 := r.step e1 z1
  obtain ⟨b, c, s1, eb, ha⟩ := r1.bag w.1
  split at p1
  · rename_i z
    cases (h1 : Dt X.K (hid ow H1) v (.int z))
    obtain ⟨us, jj, h2, h3, h4⟩ := bag_set ha hk p1.1
    exact ⟨.ref b, s1, b, us, k, jj, rfl, rfl, h2, h3, o.nx ρ σ _ ow p1.2 (r1.step (same_in (bag_fp eb)) (z1.bagPut eb h2 h4))⟩
  · exact p1.elim
/-- getItem of a list, an index within -/
theorem get_list : PGet X (fun o i H Q => ∃ p us k y, o = .ref p ∧ i = .int k ∧ 0 ≤ k ∧ H p = some (.lst us) ∧ us[k.toNat]? = some y ∧ Q y H) := by
  intro pins s σ H o i ov iv Q I ro ri h
  obtain ⟨p, us, k, y, rfl, rfl, h0, hp, hy, q⟩ := h
  cases ro
  obtain ⟨t, rfl⟩ := ri
  obtain ⟨its, rv, pl, hz⟩ := I.list (.inl (.of hp))
  obtain ⟨u, eu, ru⟩ := rv.get hy
  have hl := rv.length
  have hlt : k.toNat < us.length := (List.getElem?_eq_some_iff.mp hy).1
  have hn := line63
  exact wpAny_getItem_list pl.isList h0 (by omega) (by simpa using eu) ⟨y, H, I, ru, q⟩
def wBagAdd (i : Nat) (n : Int) : WS := fun E ρ => ρ[i]? = some (some .bag) ∧ 0 ≤ n ∧ E.nx ρ
theorem sim_bagadd (i : Nat) {n : Int} {x : Str} {xp ip tp np pos : Pos} {j jn : Nat} (hN : X.N[i]? = some x := by rfl) (hv : Vis X.env.scope x := by first | exact Or.inl rfl | exact Or.inr (Or.inl rfl) | exact Or.inr (Or.inr rfl))
    (hd : (x == ("__debug__" : Str)) = false := by decide) (hcd : (x == ("__classdict__" : Str)) = false := by decide) :
    SimS X W Z CL ow0 Hb (.AugAssign (.Subscript (.Name x xp) (.Constant (.int 2) j ip) tp) .Add (.Constant (.int n) jn np) pos) (wBagAdd i n) := by
  intro S ρ σ H ow E D r w o
  obtain ⟨b, c, s1, eb, ha⟩ := r.bag w.1
  obtain ⟨b0, b1, b2, cs, h1, h2, g0, g1, g1', g2, g3, gl, ne⟩ := id ha
  obtain ⟨us, jj, q1, q2, q3⟩ := bag_set (k := 2) (z := b2 + n) ha (.inr (.inr rfl)) ⟨by have := w.2.1; omega, fun z => by cases z⟩
  refine PSat.of (ps_augS (pe_var hN hv hd hcd) pe_int get_list pe_int ip_add set_list) ?_
  exact ⟨.ref b, s1, b, _, 2, .int b2, rfl, rfl, by decide, h1, rfl, b2, n, rfl, rfl, b, us, 2, jj, rfl, rfl, q1, q2, o.nx ρ σ _ ow w.2.2 (r.step (same_in (bag_fp eb)) (r.gr.ext.bagPut eb q1 q3))⟩
/-- (bag[3][bag[2]:] + [0])[0] -/
def wBagCell (i : Nat) : WE := fun ρ P _ => ρ[i]? = some (some .bag) ∧ ∀ z, 0 ≤ z → P (.d (.int z))
theorem sim_bagcell (i : Nat) {x : Str} {xp xp2 ip ip2 p1 p2 p3 p4 p5 p6 p7 p8 p9 : Pos} {j j2 j3 j4 : Nat} (hN : X.N[i]? = some x := by rfl) (hv : Vis X.env.scope x := by first | exact Or.inl rfl | exact Or.inr (Or.inl rfl) | exact Or.inr (Or.inr rfl))
    (hd : (x == ("__debug__" : Str)) = false := by decide) (hcd : (x == ("__classdict__" : Str)) = false := by decide) :
    SimE X W Z CL ow0 Hb (.Subscript (.BinOp (.Subscript (.Subscript (.Name x xp) (.Constant (.int 3) j ip) p1) (.Slice (some (.Subscript (.Name x xp2) (.Constant (.int 2) j2 ip2) p2)) none none p3) p4) .Add (.List [.Constant (.int 0) j3 p5] p6) p7) (.Constant (.int 0) j4 p8) p9) (wBagCell i) := by
  intro S ρ σ H ow P Ex Q r w g bd
  obtain ⟨b, c, s1, eb, b0, b1, b2, cs, h1, h2, g0, g1, g1', g2, g3, gl, ne⟩ := r.bag w.1
  intro pins s I
  have hlen : cs.length ≤ sizeLine := by
    obtain ⟨z, _⟩ := I.hok c _ h2
    rw [List.length_map] at z
    exact z
  refine (pe_ix ix_list (pe_op op_cat (pe_slice sl_list (pe_ix ix_list (pe_var hN hv hd hcd) pe_int (by intro _ _; rfl)) (po_some (pe_ix ix_list (pe_var hN hv hd hcd) pe_int (by intro _ _; rfl))) po_none) (pe_lst (pa_cons pe_int pa_nil))) pe_int (by intro _ _; rfl)).run pins s σ H Q I ?_
  refine ⟨.ref b, s1, b, _, 3, .ref c, rfl, rfl, .inl (.of h1), rfl, .ref b, s1, b, _, 2, .int b2, rfl, rfl, .inl (.of h1), rfl, b2, rfl, c, _, rfl, .inl (.of h2), fun p hp => ?_⟩
  refine ⟨by show 1 ≤ sizeLine; rw [sizeLine_eq]; omega, fun q hq => ?_⟩
  have npq : p ≠ q := fun e => by rw [e, upd_same] at hq; cases hq
  have nq : H q = none := by
    rw [upd_ne (Ne.symm npq)] at hq
    exact hq
  have n1 := Le.new (o := .lst (cutV (cs.map V.int) (some b2) none)) hp
  have n2 := Le.new (o := .lst [V.int 0]) hq
  -- the cut list's items are cells
  obtain ⟨ds, hds, hpos⟩ : ∃ ds : List Int, cutV (cs.map V.int) (some b2) none = ds.map V.int ∧ ∀ d ∈ ds, 0 ≤ d := by
    refine ⟨cutG cs (some b2) none, ?_, fun d m => g3 d ?_⟩
    · unfold cutV cutG
      rw [List.length_map, ← List.map_drop, ← List.map_take]
    · unfold cutG at m
      exact List.mem_of_mem_drop (List.mem_of_mem_take m)
  refine ⟨p, q, _, [V.int 0], rfl, rfl, (upd_ne npq).trans upd_same, upd_same, ?_, fun t ht => ?_⟩
  · have hl : ds.length ≤ cs.length := by
      have e := congrArg List.length hds
      unfold cutV at e
      simp only [List.length_map, List.length_take, List.length_drop] at e
      omega
    rw [hds, List.length_map]
    show ds.length + 1 ≤ sizeLine
    rw [sizeLine_eq]
    omega
  · obtain ⟨z, hz, h0⟩ : ∃ z : Int, (ds.map V.int ++ [V.int 0])[0]? = some (V.int z) ∧ 0 ≤ z := by
      cases ds with
      | nil => exact ⟨0, rfl, Int.le_refl 0⟩
      | cons d r => exact ⟨d, rfl, hpos d List.mem_cons_self⟩
    have le : Le H (upd (upd (upd H p (.lst (cutV (cs.map V.int) (some b2) none))) q (.lst [V.int 0])) t (.lst (cutV (cs.map V.int) (some b2) none ++ [V.int 0]))) := (n1.trans n2).trans (Le.new ht)
    refine ⟨t, _, 0, .int z, rfl, rfl, .inl (.of upd_same), ?_, g.dat (w.2 z h0) le r.gr.ext (.int z)⟩
    rw [hds]
    unfold L2.atI ixN
    rw [if_pos (Int.le_refl 0), if_pos (by rw [List.length_append]; show (0 : Int) < ((ds.map V.int).length + 1 : Nat); omega)]
    exact hz
end
end Pd

/-! Pd14: powers; sorted(set(..)) of a list of ints. -/
namespace Pd
open PySem PySem.Spec PyProof.Rows L2
section
variable {X : Cx} {W : WX} {Z : Ext} {CL : Calls} {ow0 : List Addr} {Hb : Hp}
def opPow : Op2 := fun a b P => match a.rd, b.rd with
  | some (.int i), some (.int j) => CPow i j ∧ P (.d (.int (i ^ j.toNat)))
  | _, _ => False
theorem or_pow : OpR X (binaryOp .Pow) (rD CL Z X.K opPow) := by
  intro pins s σ H x y v u Q I rx ry hyp
  obtain ⟨ow, H0, a, b, P, gr, ha, hb, w, g⟩ := hyp
  unfold opPow at w
  split at w
  · rename_i i j e1 e2
    rw [ha.int e1] at rx
    rw [hb.int e2] at ry
    exact op_pow pins s σ H _ _ v u Q I rx ry ⟨i, j, rfl, rfl, w.1, g.sc w.2 gr.ext fun _ => .int _⟩
  · exact w.elim
end
section
variable {P : Program} {w : World} {A : Around} {E : Value → Shared → Prop} {s : Shared}
/-- the object of a set that is just begun -/
def bornSet (w : World) : Obj := { cls := .type "set", dict := none, data := .set #[] 0 (.fresh 0 0 (!w.params.followText "set-order")) }
set_option maxHeartbeats 3200000 in
/-- set(xs), a list of ints: its members, their count, the order told -/
theorem set_of_list {l : Addr} {items : Array Value} (ns : List Int) {Q : Value → Shared → Prop} (quiet : A.handled = none) (isL : s.heap.IsList l items) (areInts : IntsAre items.toList ns) (few : ns.length + 1 < scanBound)
    (fin : ∀ (h' : Heap) (tk c : Nat), SetR w h' s.heap.objs.size (fun j => decide (j ∈ ns)) c → c ≤ ns.length → (∀ b o, s.heap.get? b = some o → h'.get? b = some o) → Q (.ref s.heap.objs.size) { s with heap := h', toks := tk }) :
    wpAny (model P w) A (call (.type "set") [.ref l]) Q E s := by
  have size : items.size = ns.length := (Array.length_toList (xs := items)).symm.trans (IntsAre.length areInts)
  obtain ⟨cc, tl, mro⟩ := F.called_set.mro
  have madeSet := F.called_set.made; have subSet := F.called_set.sub
  refine wpAny_call (codeAny_of_tree ?_)
  show wpAny _ _ (callAny (.type "set") ⟨[.ref l], []⟩) _ _ _
  refine wpAny_pure ⟨Code.quiet_builtin _ (by decide +kernel), codeAny_builtin F.entry_type_call ?_⟩
  rw [Around.under_plain (weight_type_call_type "set" [.ref l] []) rfl]
  have noType := F.called_set.notType; have creates := F.called_set.canCreate; have typeCalled := F.typeCall_set_1 (.ref l)
  repeat (any_goals (first | assumption | wp_step))

  refine codeAny_mono (code_set_led1 (.ref l) (E := E) (Q₁ := fun obj s₁ => obj = .ref s.heap.objs.size ∧ s₁ = { s with heap := s.heap.push (bornSet w) }) ⟨rfl, rfl⟩) fun r s₁ hr => ?_
  cases r with
  | error e => exact hr
  | ok fl =>
    cases fl with
    | ret obj =>
      obtain ⟨rfl, rfl⟩ := hr
      have born : (s.heap.push (bornSet w)).get? s.heap.objs.size = some (bornSet w) := Heap.get?_push_size _ rfl
      have isSet : Shared.TypeIs { s with heap := s.heap.push (bornSet w) } (.ref s.heap.objs.size) "set" := ⟨_, born, rfl⟩
      have initAt := F.called_set.init.lookup; have initBind := F.called_set.init.bind (.ref s.heap.objs.size)
      repeat (any_goals (first | assumption | wp_step))

      refine codeAny_mono (codeAny_call_builtin (R := wants (fun r s₂ => r = .none ∧ ∃ h' tk c, s₂ = { s with heap := h', toks := tk } ∧ SetR w h' s.heap.objs.size (fun j => decide (j ∈ ns)) c ∧ c ≤ ns.length ∧ (∀ b o, s.heap.get? b = some o → h'.get? b = some o)) E) F.called_set.init.plain F.entry_set_init (check_set_init_1 isSet ?_)) fun r₂ s₂ hr₂ => ?_
      · obtain ⟨⟨oc, od, oda, osl⟩, at_, clsL, cnt, dataL⟩ := isL
        simp only at clsL dataL
        subst clsL; subst dataL
        have at1 : (s.heap.push (bornSet w)).get? l = some { cls := .type "list", dict := od, data := .seq items cnt, slots := osl } := Heap.get?_push_of_some _ at_
        have noSet := F.sub_list_set; have noFrozen := F.sub_list_frozenset
        have noDict : (Value.type "list" == Value.type "dict") = false := by decide
        have list1 : (s.heap.push (bornSet w)).IsList l items := ⟨_, at1, rfl, cnt, rfl⟩
        unfold Builtin.«set.__init__» noKeywords Builtin.Frozenset.updateFrom
        generalize walker : pyIter = PI
        wp_walk
        subst walker

        refine wpAny_pyIter_list list1 (wpAny_bind (wpAny_runValue ?_))
        have below : l < s.heap.objs.size := Heap.lt_size at_
        have calm3 : A.in1.in1.in1.handled = none := by simp [quiet]
        have grown : (s.heap.push (bornSet w)).objs.size = s.heap.objs.size + 1 := Heap.size_push ..
        have apart : l ≠ (s.heap.push (bornSet w)).objs.size := by rw [grown]; exact Nat.ne_of_lt (Nat.lt_succ_of_lt below)
        have off : s.heap.objs.size ∉ [(s.heap.push (bornSet w)).objs.size, l] := by
          rw [grown]
          simp only [List.mem_cons, List.not_mem_nil, or_false, not_or]
          exact ⟨Nat.ne_of_lt (Nat.lt_succ_self _), Nat.ne_of_gt below⟩
        have each : ∀ (i : Nat) (v : Value), items[i]? = some v → ∃ k t, ns[i]? = some k ∧ v = .int k t := fun i v hv => by
          have within : i < ns.length := by rw [← size]; exact (Array.getElem?_eq_some_iff.mp hv).1
          obtain ⟨t, e⟩ := PyProof.Rows.IntsAre.int_at areInts i v (by rw [Array.getElem?_toList]; exact hv)
          refine ⟨ns[i], t, List.getElem?_eq_getElem within, ?_⟩
          rw [e, List.getD_eq_getElem?_getD, List.getElem?_eq_getElem within] <;> rfl
        refine set_update_ints ((Walks.list calm3 _ l apart items).toS) s.heap.objs.size off ns size few each (items.size - 0) 0 _ (by omega) (Nat.zero_le _) ⟨⟨_, Heap.get?_push_size _ rfl, rfl, rfl⟩, (list1.push _)⟩ ?begun ?ended
        case begun => exact ⟨0, Nat.le_refl 0, setR_new_at (Heap.get?_push_of_some _ born)⟩
        case ended =>
          intro s' c' moved many isNow
          obtain ⟨h', g2, d', tk', os'⟩ := s'
          have eg : g2 = s.gens := moved.gens
          have ed : d' = s.drawn := moved.drawn
          have eo : os' = s.os := moved.os
          subst eg; subst ed; subst eo
          show wpAny _ _ _ _ _ _
          refine wpAny_pure ?_
          show wpAny _ _ (ret Value.none) _ _ _
          refine wpAny_pure ⟨rfl, h', tk', c', rfl, isNow, by rw [← size]; exact many, fun b o e => ?_⟩
          have old : b < s.heap.objs.size := Heap.lt_size e
          refine moved.heap b o ?_ (Heap.get?_push_of_some _ (Heap.get?_push_of_some _ e))
          simp only [List.mem_cons, List.not_mem_nil, or_false, not_or, grown]
          exact ⟨Nat.ne_of_lt old, Nat.ne_of_lt (Nat.lt_succ_of_lt old)⟩
      · rcases r₂ with e | fl₂
        · exact hr₂
        · cases fl₂ with
          | ret r =>
            obtain ⟨rfl, h', tk, c', rfl, isNow, many, kept⟩ := hr₂
            repeat (any_goals (first | assumption | wp_step))
            exact fin _ _ _ isNow many kept
          | _ => exact hr₂.elim
    | _ => exact hr.elim
end

section
variable {X : Cx} {W : WX} {Z : Ext} {CL : Calls} {ow0 : List Addr} {Hb : Hp}
/-- sorted(set(e)), ints -/
def wSortedSet (w : WE) : WE := fun ρ P Ex => w ρ (fun y => match y.rd with
  | some (.list xs) => match intsOf xs with
    | some ns => ns.length < 64 ∧ ∀ out : List Int, out.Pairwise (· < ·) → (∀ k, k ∈ out ↔ k ∈ ns) → P (.own (out.map .int))
    | none => False
  | _ => False) Ex
theorem sim_sortedSet {e : Expr} {we : WE} {p p2 q pos : Pos} (hc : X.calm = true) (h : SimE X W Z CL ow0 Hb e we) (hg : Gl X "sorted") (hm : X.mg "sorted" = none) (hg2 : Gl X "set") (hm2 : X.mg "set" = none)
    (na : starEach [e] X.env = (false, eval e X.env) :: starEach [] X.env := by rfl) : SimE X W Z CL ow0 Hb (.Call (.Name "sorted" p) [.Call (.Name "set" p2) [e] [] q] [] pos) (wSortedSet we) := by
  intro S ρ σ H ow P Ex Q r w g bd pins s I
  refine Call_ (ld_blt I hg hm PyProof.Rows.boot_sorted (PyProof.Rows.callWith_builtin1 (PyProof.Rows.args_cons ?_ rfl) rfl rfl))
  refine Call_ (ld_blt I hg2 hm2 PyProof.Rows.boot_set (PyProof.Rows.callWith_type1 (PyProof.Rows.args_cons (thn (h S ρ σ H ow _ Ex (fun v H1 => ∃ y, SameBut (fp Z) H H1 ∧ RZ Z H1 ∧ RV CL Z X.K ow H H1 v y ∧ _) r w (fun y v H1 p1 e1 z1 h1 => ⟨y, e1, z1, h1, p1⟩) bd pins s I) fun u s1 hh => PyProof.Rows.args_nil ?_) na) na rfl))
  obtain ⟨v, H1, I1, rv, y, e1, z1, h1, p1⟩ := hh
  split at p1
  · rename_i xs ex
    split at p1
    · rename_i ns en
      obtain ⟨a, vs, rfl, hp, ha⟩ := h1.list ex
      rw [intsOf_eq en] at ha
      rw [ha.ints] at hp
      cases rv
      obtain ⟨its, r1, pl, hz⟩ := I1.list (.inl (.of hp))
      refine set_of_list (P := X.prog) (w := X.w) ns (I1.ok.hd hc) pl.isList (by simpa using ints_of_vals r1) (by unfold scanBound; omega) fun h' tk c R many kept => PyProof.Rows.args_nil ?_
      have I2 : Inv X pins σ H1 { s1 with heap := h', toks := tk } := I1.kept kept
      refine sorted_set R (I2.ok.hd hc) (by omega) fun s' l out cnt out' kept2 gens os fresh at_ isI up mem len => ?_
      have hn : H1 l = none := I2.hok.fresh fresh
      have le : (out'.map V.int).length ≤ sizeLine := by rw [List.length_map, len, sizeLine_eq]; omega
      have J : Inv X pins σ (upd H1 l (.lst (out'.map V.int))) { ({ s1 with heap := h', toks := tk } : Shared) with heap := s'.heap, gens := s'.gens, drawn := s'.drawn, toks := s'.toks } :=
        I2.call (s := { s1 with heap := h', toks := tk }) (ch := []) (Un.laid kept2 fresh hn) (I2.hok.laid kept2 fresh ⟨le, out.toList, cnt, vals_of_ints isI, at_⟩) (by rw [gens]; exact I2.bare) (fun _ z => nomatch z)
      have same : s' = { s1 with heap := s'.heap, gens := s'.gens, drawn := s'.drawn, toks := s'.toks } := by
        obtain ⟨h1, h2, h3, h4, h5⟩ := s'
        cases os
        rfl
      rw [same]
      refine ⟨.ref l, _, J, rfl, (g.step e1 r.gr.fpo).lst (p1.2 out' up fun k => by rw [mem k, decide_eq_true_eq]) (r.gr.step e1 z1) hn (DtAll.ofInts out')⟩
    · exact p1.elim
  · exact p1.elim
end
end Pd

/-! Pd15: heard(lambda: ..), a def that calls what it got and tells whether an error came. -/
namespace Pd
open PySem PySem.Spec PyProof.Rows L2
/-- try: return (told, act()) except e: return (nothing,) -/
def THeard (K : PySem.W.Frag) (CS : Addr) (told nothing : Str) : (XK → Hp → VK → Prop) → Hp → VK → Prop := fun tl H Q =>
  tl (fun cls _ H' => ∃ b, PySem.W.exmOne K cls (.ref CS) = some b ∧ (b = true → ∀ p, H' p = none → Q (.ref p) (upd H' p (.tup [.str nothing]))) ∧ (b = false → False)) H
    fun v H' => [V.str told, v].length ≤ sizeLine ∧ ∀ p, H' p = none → Q (.ref p) (upd H' p (.tup [.str told, v]))
theorem heard_gives {X : Cx} {Ng : List Str} {x a e q told nothing : Str} {sg : Scope} {g CS : Addr} {cdg : Value} {j j2 k1 k2 : Nat} {p1 p2 p3 p4 p5 p6 p7 p8 p9 p10 p11 : Pos} (hge : sg.names.lookup e = some .globalImplicit) (hme : X.mg e = some (.ref CS)) (hde : (e == ("__debug__" : Str)) = false) (h0 : ∀ f : Addr, (L2.start Ng [V.ref f])[0]? = some (some (V.ref f))) :
    LamX.GivesTo X Ng x sg g cdg [.Try [.Return (some (.Tuple [.Constant (.str told) j p9, .Call (.Name a p1) [] [] p2] k1 p10)) p3] [.ExceptHandler (some (.Name e p4)) none [.Return (some (.Tuple [.Constant (.str nothing) j2 p5] k2 p11)) p6] p7] [] [] p8] a q (THeard X.K CS told nothing) := by
  intro f c' s H Q tl act hc hyp
  have global : Gl (cxOf C8.CX0 X.prog X.w X.K X.mg X.base Ng x sg g cdg X.A X.stack s H C8.E0).nox e := hge
  refine ⟨_, pss_one (ps_try_only (X := (cxOf C8.CX0 X.prog X.w X.K X.mg X.base Ng x sg g cdg X.A X.stack s H C8.E0).nox) (c := .ref CS)
      (tb := fun W D σ H => ∃ Ech : XK, (∀ cls d σ' H', Ech cls d H' → W cls d σ' H') ∧ σ[0]? = some (some (.ref f)) ∧ H c' = some (LamX.CodeO c' q) ∧ tl Ech H fun v H' => [V.str told, v].length ≤ sizeLine ∧ ∀ p, H' p = none → D.rt (.ref p) (upd H' p (.tup [.str told, v])))
      rfl rfl ⟨global, hde, .inl hme⟩ LamX.takes0 (fun W pn xe tk _ => ?_) (fun a oe cls d pn _ _ => pss_one (ps_ret (pe_tup (pa_cons pe_str pa_nil))))), ?_⟩
  · refine ⟨fun pins s' σ H' D I ⟨Ech, hW, at0, code, run⟩ => ?_⟩
    exact (pss_one (ps_ret (pos := p3) (pe_tup (pa_cons pe_str (pa_cons (act W pn xe Ech p1 p2 tk hW) pa_nil))))).run pins s' σ H' D I ⟨at0, code, run⟩
  · refine ⟨fun cls _ H' => ∃ b, PySem.W.exmOne X.K cls (.ref CS) = some b ∧ (b = true → ∀ p, H' p = none → Q (.ref p) (upd H' p (.tup [.str nothing]))) ∧ (b = false → False), fun cls d σ' H' ⟨b, e1, e2, e3⟩ => ⟨b, e1, fun hb a _ => ⟨by show 1 ≤ sizeLine; rw [sizeLine_eq]; omega, fun p hp => e2 hb p hp⟩, fun hb => e3 hb⟩, h0 f, hc, hyp⟩

section
variable {X : Cx} {W : WX} {Z : Ext} {CL : Calls} {ow0 : List Addr} {Hb : Hp}
/-- what holds in every call of a lambda that X makes -/
def InLam (X : Cx) (scope : Scope) (k : Nat) (p : Cx → XK → Prop) : Prop := ∀ (A : Around) (outer : List Env) (s : Shared) (H : Hp) (E : XK) (f c' : Addr), Room k (A.deeper (LamX.lamEnv X scope s.heap.objs.size f c')) → p (LamX.lamCx X A outer s H E scope f c') E
def wHeard (told nothing : Str) (caught : List Str) (we : WE) : WE := fun ρ P _ => we ρ (fun y => match y.kp with
  | some d => P (.d (.tuple [.str told, d]))
  | none => False) fun x => x.cls ∈ caught ∧ P (.d (.tuple [.str nothing]))
theorem sim_heard {x a told nothing : Str} {g c P CS : Addr} {k : Nat} {st : Stmt} {fd : FuncData} {Ng : List Str} {caught : List Str} {params : Arguments} {body : Expr} {scope : Scope} {we : WE} {p lpos pos : Pos} (F : Fun X.K x x st g fd) (hg : Gl X x) (hm : X.mg x = some (.ref g)) (hb : L2.Binds X.K fd [a] []) (SG : FnScope Ng [a] (defScope st)) (hNg : Ng[0]? = some a) (hva : Vis (defScope st) a)
    (hG : ∀ (cdg : Value) (q : Str), LamX.GivesTo X Ng x (defScope st) g cdg (defBody st) a q (THeard X.K CS told nothing)) (hcaught : ∀ e ∈ caught, ∀ C, X.mg e = some (.ref C) → PySem.W.exmOne X.K (.ref C) (.ref CS) = some true)
    (TB : LamX.TabB X.base X.mg c P) (hcode : X.env.code = .ref c) (hmT : (P, X.env.qual ++ "<lambda>") ∈ Z.tabs) (hu : ∀ p ∈ Z.tabs, p.1 = P → p.2 = X.env.qual ++ "<lambda>") (hr : Room (k + 2) X.A) (L : LamX.LamS X.env.scope scope) (hdef : defaultsOf params X.env = ([], []))
    (hbind : ∀ (q : Str) (cl : List (Str × Addr)) (pm cv ctv : Value), bindArgs (PySem.W.kla_fn "<lambda>" q params body scope cl pm cv ctv) ⟨[], []⟩ = pure [])
    (hbody : InLam X scope k fun Y E => SimE Y (fun cls d _ H' => E cls d H') Z CL ow0 Hb body we)
    (hdb : (x == ("__debug__" : Str)) = false := by decide) (hd : (a == ("__debug__" : Str)) = false := by decide) (hcd : (a == ("__classdict__" : Str)) = false := by decide) :
    SimE X W Z CL ow0 Hb (.Call (.Name x p) [.Lambda params body scope lpos] [] pos) (wHeard told nothing caught we) := by
  intro S ρ σ H ow R Ex Q r w gd bd
  obtain ⟨oc, od, kV, doc, pm, an, cdv, ct, osl, rfl, lk, hcd'⟩ := F.ex
  refine PEat.of (LamX.pe_lamcall (t := fun E σ H Q => InLam X scope k fun Y E' => E' = E → PEat Y body σ H Q) hg hm F.kp lk hcd' hb SG hNg hva (hG cdv _) TB hcode hmT hu hr L hdef hbind (fun A outer s H E f c' hr' => ⟨fun pins s' σ H Q I h => h A outer s _ E f c' hr' rfl pins s' I⟩) hdb hd hcd) ?_
  refine ⟨r.gr.ext.tabs, fun H1 eN T1 => ?_⟩
  have e1 : SameBut (fp Z) H H1 := extN_same eN
  have z1 : RZ Z H1 := r.gr.ext.extN eN T1
  have r1 := r.step e1 z1
  have g1 := gd.step e1 r.gr.fpo
  intro A outer s0 H0 E f c' hr' hE
  subst hE
  refine hbody A outer s0 H0 _ f c' hr' S ρ σ H1 ow _ _ _ r1 w (fun y v H2 p2 e2 z2 h2 => ?_) (fun ex cls d H2 p2 er e2 z2 => ?_)
  · split at p2
    · rename_i d ed
      exact ⟨by show 2 ≤ sizeLine; rw [sizeLine_eq]; omega, fun q hq => (g1.step e2 r.gr.fpo).tup p2 (r1.gr.step e2 z2) hq (.cons (.str _) (.cons (h2.kp ed) .nil))⟩
    · exact p2.elim
  · obtain ⟨C, hC, rfl⟩ := er.1
    exact ⟨true, hcaught ex.cls p2.1 C hC, fun _ q hq => (g1.step e2 r.gr.fpo).tup p2.2 (r1.gr.step e2 z2) hq (.cons (.str _) .nil), fun z => nomatch z⟩
end
end Pd

/-! Pd16: stores as data, comprehensions stored, steps down, op=, several names at once; defs bundled. -/
namespace Pd
open PySem PySem.Spec PyProof.Rows L2
section
variable {X : Cx} {W : WX} {Z : Ext} {CL : Calls} {ow0 : List Addr} {Hb : Hp}
/-- name = e, kept as data -/
def wSetD (i : Nat) (w : WE) : WS := fun E ρ => w ρ (fun y => match y.kp with
  | some d => E.nx (ρ.set i (some (.d d)))
  | none => False) (fun x => E.ex x ρ)
theorem sim_setD (i : Nat) {x : Str} {e : Expr} {we : WE} {pos pos' : Pos} (h : SimE X W Z CL ow0 Hb e we) (hN : X.N.Nodup) (hi : X.N[i]? = some x := by rfl) (hx : Loc X.env.scope x := by first | exact Or.inl rfl | exact Or.inr rfl)
    (hs : swapsWith e (some (.Name x pos')) pos.line X.env = pure false := by rfl) (hf : X.fn x = true ∨ X.env.scope.names.lookup x = some .local := by first | exact .inl rfl | exact .inr rfl | assumption) :
    SimS X W Z CL ow0 Hb (.Assign [.Name x pos'] e pos) (wSetD i we) := by
  intro S ρ σ H ow E D r w o
  refine PSat.of (ps_set hN hi hx PEat.pe hs hf) (h S ρ σ H ow _ _ _ r w (fun y v H' p e z q => ?_) (o.bd r))
  split at p
  · rename_i d ed
    exact o.nx _ _ H' ow p ((r.step e z).setD (q.kp ed))
  · exact p.elim
/-- name = [.. for ..] on one line -/
theorem sim_setLcG (i : Nat) {y : Str} {py : Pos} {tg iter elt : Expr} {ifs : List Expr} {scope : Scope} {own : List (Str × Nat)} {pos spos : Pos} {wi : WI} {b : WB} {is : List Nat} {tt : WT} {we : WE} (hc : X.calm = true) (hN : X.N.Nodup) (g0 : Gr Z ow0 Hb) (hi : SimI X W Z CL ow0 Hb tg iter wi) (ok : BlkOk X.N X.env.scope scope own) (his : ∀ i ∈ is, i ∈ own.map (·.2))
    (hg : InBlk X scope fun Y => SimB Y Z CL ow0 Hb tg b is) (ht : InBlk X scope fun Y => SimTs Y W0 Z CL ow0 Hb ifs tt) (he : InBlk X scope fun Y => SimE Y W0 Z CL ow0 Hb elt we)
    (hy : X.N[i]? = some y := by rfl) (hyl : X.env.scope.names.lookup y = some .local := by rfl) (hsw : swapsWith (.ListComp elt [⟨tg, iter, ifs, 0⟩] scope pos) (some (.Name y py)) spos.line X.env = pure true := by exact sw_true rfl rfl rfl (by decide +kernel))
    (hs : ∀ x, foldedSetIterable iter X.env x = pure x := by intro _; rfl) {S : Hp} {ρ : Ev} {σ : L2.St} {H : Hp} {ow : List Addr} {P : Val → Prop} {Ex : Xn → Prop} {D : L2.Ends} (r : Rel CL Z X.K ow0 Hb S ρ σ H ow) (w : wLc wi b tt we (own.map (·.2)) ρ P Ex)
    (gd : Gd CL Z X.K ow H P fun v H' => D.nx (σ.set i (some v)) H') (bd : Bd Z X.K ow X.mg W σ H Ex) : PSat X (.Assign [.Name y py] (.ListComp elt [⟨tg, iter, ifs, 0⟩] scope pos) spos) D σ H := by
  refine PSat.of (ps_setLc (g := fun v σ H Q => InBlk X scope fun Y => PGat Y tg v σ H Q) (tt := fun σ H Q => InBlk X scope fun Y => PTsat Y ifs σ H Q) (te := fun σ H Q => InBlk X scope fun Y => PEat Y elt σ H Q) hc hN hy hyl hsw PIat.pi ok (fun s H C cl fp => ⟨fun pins s' σ H' v u Q I rv h => h s H C cl fp pins s' u I rv⟩) (fun s H C cl fp => ⟨fun pins s' σ H' Q I h => h s H C cl fp pins s' I⟩) (fun s H C cl fp => ⟨fun pins s' σ H' Q I h => h s H C cl fp pins s' I⟩) hs) ?_
  exact lc_parts hg ht he hi his g0 r w gd bd
theorem sim_setLc (i : Nat) {y : Str} {py : Pos} {tg iter elt : Expr} {ifs : List Expr} {scope : Scope} {own : List (Str × Nat)} {pos spos : Pos} {wi : WI} {b : WB} {is : List Nat} {tt : WT} {we : WE} (hc : X.calm = true) (hN : X.N.Nodup) (g0 : Gr Z ow0 Hb) (hi : SimI X W Z CL ow0 Hb tg iter wi) (ok : BlkOk X.N X.env.scope scope own) (his : ∀ i ∈ is, i ∈ own.map (·.2))
    (hg : InBlk X scope fun Y => SimB Y Z CL ow0 Hb tg b is) (ht : InBlk X scope fun Y => SimTs Y W0 Z CL ow0 Hb ifs tt) (he : InBlk X scope fun Y => SimE Y W0 Z CL ow0 Hb elt we)
    (hy : X.N[i]? = some y := by rfl) (hyl : X.env.scope.names.lookup y = some .local := by rfl) (hsw : swapsWith (.ListComp elt [⟨tg, iter, ifs, 0⟩] scope pos) (some (.Name y py)) spos.line X.env = pure true := by exact sw_true rfl rfl rfl (by decide +kernel))
    (hs : ∀ x, foldedSetIterable iter X.env x = pure x := by intro _; rfl) : SimS X W Z CL ow0 Hb (.Assign [.Name y py] (.ListComp elt [⟨tg, iter, ifs, 0⟩] scope pos) spos) (wSet i (wLc wi b tt we (own.map (·.2)))) := by
  intro S ρ σ H ow E D r w o
  refine sim_setLcG i hc hN g0 hi ok his hg ht he hy hyl hsw hs r w (fun t v H' p e z q => ?_) (o.bd r)
  split at p
  · rename_i t' et
    have et' := slv_eq et
    subst et'
    obtain ⟨ow', r'⟩ := r.set (i := i) e z q et
    exact o.nx _ _ H' ow' p r'
  · exact p.elim
theorem sim_setLcD (i : Nat) {y : Str} {py : Pos} {tg iter elt : Expr} {ifs : List Expr} {scope : Scope} {own : List (Str × Nat)} {pos spos : Pos} {wi : WI} {b : WB} {is : List Nat} {tt : WT} {we : WE} (hc : X.calm = true) (hN : X.N.Nodup) (g0 : Gr Z ow0 Hb) (hi : SimI X W Z CL ow0 Hb tg iter wi) (ok : BlkOk X.N X.env.scope scope own) (his : ∀ i ∈ is, i ∈ own.map (·.2))
    (hg : InBlk X scope fun Y => SimB Y Z CL ow0 Hb tg b is) (ht : InBlk X scope fun Y => SimTs Y W0 Z CL ow0 Hb ifs tt) (he : InBlk X scope fun Y => SimE Y W0 Z CL ow0 Hb elt we)
    (hy : X.N[i]? = some y := by rfl) (hyl : X.env.scope.names.lookup y = some .local := by rfl) (hsw : swapsWith (.ListComp elt [⟨tg, iter, ifs, 0⟩] scope pos) (some (.Name y py)) spos.line X.env = pure true := by exact sw_true rfl rfl rfl (by decide +kernel))
    (hs : ∀ x, foldedSetIterable iter X.env x = pure x := by intro _; rfl) : SimS X W Z CL ow0 Hb (.Assign [.Name y py] (.ListComp elt [⟨tg, iter, ifs, 0⟩] scope pos) spos) (wSetD i (wLc wi b tt we (own.map (·.2)))) := by
  intro S ρ σ H ow E D r w o
  refine sim_setLcG i hc hN g0 hi ok his hg ht he hy hyl hsw hs r w (fun t v H' p e z q => ?_) (o.bd r)
  split at p
  · rename_i d ed
    exact o.nx _ _ H' ow p ((r.step e z).setD (q.kp ed))
  · exact p.elim
/-- range(i, j, -1) -/
def downD (lo : Int) (n : Nat) : List D := (List.range n).map fun i => .int (lo - (i : Nat))
theorem itD_down {K : PySem.W.Frag} {S1 : Hp} {lo : Int} {n : Nat} : ItD K S1 (Itc lo (-1) n) (downD lo n) where
  go := fun i H e hi => by
    have : i < n := by simpa [downD] using hi
    exact this
  stop := fun H e => by simp [downD, Itc]
  yld := fun i H x H' ow d _ e hd y => by
    obtain ⟨rfl, rfl⟩ := y
    have hi : i < n := by simpa [downD] using (List.getElem?_eq_some_iff.mp hd).1
    unfold downD at hd
    rw [List.getElem?_map, List.getElem?_range hi] at hd
    cases hd
    have e1 : lo + (i : Int) * (-1) = lo - (i : Int) := by omega
    rw [e1]
    exact ⟨.refl _, .int _⟩
def wRng3 (w : WA) : WI := fun ρ P Ex => w ρ (fun ys => match ys with
  | [x, y, z] => match x.rd, y.rd, z.rd with
    | some (.int i), some (.int j), some (.int (-1)) => rgOk i ∧ rgOk j ∧ (i - j).toNat ≤ sizeLine ∧ P (downD i (i - j).toNat)
    | _, _, _ => False
  | _ => False) Ex
theorem sim_rng3 {tg a c d : Expr} {wa : WA} {p pos : Pos} (hg : Gl X "range") (hm : X.mg "range" = none) (h : SimA X W Z CL ow0 Hb [a, c, d] wa) (hs : starEach [a, c, d] X.env = (false, eval a X.env) :: starEach [c, d] X.env := by rfl) (hpl : (backTo pos (starEach [c, d] X.env)).any (·.1) = false := by rfl) :
    SimI X W Z CL ow0 Hb tg (.Call (.Name "range" p) [a, c, d] [] pos) (wRng3 wa) := by
  intro S ρ σ H ow P Ex R r w g b
  refine PIat.of (pi_range3 hg hm PAat.pa hs hpl) (h S ρ σ H ow _ Ex _ r w (fun ys vs H' p e z q => ?_) b)
  split at p
  · split at p
    · rename_i x y z' i j ei ej ek
      cases q with
      | cons q1 q2 =>
        cases q2 with
        | cons q2 q3 =>
          cases q3 with
          | cons q3 q4 =>
            cases q4
            exact ⟨i, j, -1, _, by rw [q1.int ei, q2.int ej, q3.int ek], RgC.neg p.1.1 p.1.2 p.2.1.1 p.2.1.2, g _ _ H' p.2.2.2 e z itD_down fun _ => by simpa [downD] using p.2.2.1⟩
    · exact p.elim
  · exact p.elim
/-- name += e, ints -/
def wAug (i : Nat) (f : Int → Int → Int) (w : WE) : WS := fun E ρ => match ρ[i]? with
  | some (some (.d (.int k))) => w ρ (fun y => match y.rd with
    | some (.int j) => E.nx (ρ.set i (some (.d (.int (f k j)))))
    | _ => False) (fun x => E.ex x ρ)
  | _ => False
theorem sim_aug (i : Nat) {op : Operator} {f : Int → Int → Int} {x : Str} {e : Expr} {we : WE} {pos pos' : Pos} (ho : PIp X op (ipI f)) (h : SimE X W Z CL ow0 Hb e we) (hN : X.N.Nodup) (hi : X.N[i]? = some x := by rfl) (hx : Loc X.env.scope x := by first | exact Or.inl rfl | exact Or.inr rfl)
    (hf : X.fn x = true ∨ X.env.scope.names.lookup x = some .local := by first | exact .inl rfl | exact .inr rfl | assumption) : SimS X W Z CL ow0 Hb (.AugAssign (.Name x pos') op e pos) (wAug i f we) := by
  intro S ρ σ H ow E D r w o
  unfold wAug at w
  split at w
  · rename_i k hk
    obtain ⟨v, h1, h2⟩ := r.val i _ hk
    cases (h2 : Dt X.K (hid ow H) v (.int k))
    refine PSat.of (ps_aug hN hi hx PEat.pe ho hf) ⟨.int k, h1, ?_⟩
    refine h S ρ σ H ow _ _ _ r w (fun y v H' p e z q => ?_) (o.bd r)
    split at p
    · rename_i j ej
      exact ⟨k, j, rfl, q.int ej, o.nx _ _ H' ow p ((r.step e z).setD (.int _))⟩
    · exact p.elim
  · exact w.elim
/-- target = e, the value data -/
def wAsg (b : WB) (w : WE) : WS := fun E ρ => w ρ (fun y => match y.kp with
  | some d => b ρ d fun ρ' => E.nx ρ'
  | none => False) (fun x => E.ex x ρ)
theorem sim_asg {tg e : Expr} {b : WB} {is : List Nat} {we : WE} {pos : Pos} (h : SimE X W Z CL ow0 Hb e we) (hb : SimB X Z CL ow0 Hb tg b is) (hs : swapsWithSole [tg] e pos.line X.env = pure false := by rfl) (hw : swappedStores [tg] e X.env = pure none := by rfl)
    (h1 : (assignEach [tg] X.env).map (·.2) = [assign tg X.env] := by rfl) : SimS X W Z CL ow0 Hb (.Assign [tg] e pos) (wAsg b we) := by
  intro S ρ σ H ow E D r w o
  refine PSat.of (ps_asg PEat.pe PGat.pg hs hw h1) (h S ρ σ H ow _ _ _ r w (fun y v H' p e z q => ?_) (o.bd r))
  split at p
  · rename_i d ed
    exact hb S ρ σ H' ow d v _ _ (r.step e z) (q.kp ed) p fun ρ' σ' n r' _ => o.nx ρ' σ' H' ow n r'
  · exact p.elim
end
/-! ### defs bundled -/
structure Src (K : PySem.W.Frag) (mg : Str → Option Value) (x qual : Str) (st : Stmt) (ps : List Str) : Prop where
  ex : ∃ (f : Addr) (fd : FuncData), Fun K x qual st f fd ∧ mg x = some (.ref f) ∧ Binds K fd ps []
section
variable (P : Program) (w : World) (K : PySem.W.Frag) (mg : Str → Option Value) (base : Heap) (TT : List (Addr × Str)) (kc : Nat)
structure Dfn (x : Str) (k n : Nat) (Φ : Fs) : Prop where
  ex : ∃ (f : Addr) (fd : FuncData) (ps : List Str), ps.length = n ∧ FnOk P w K mg base (L2.CX P w) k f fd ps (spW P w K mg base TT kc n Φ) ∧ mg x = some (.ref f) ∧ PySem.W.keepIn K (.ref f) = true ∧ Binds K fd ps []
structure Gfn (x : Str) (k n : Nat) (Φ : Fs) : Prop where
  ex : ∃ (f : Addr) (fd : FuncData) (ps : List Str), ps.length = n ∧ GnOk P w K mg base k f fd ps (spW P w K mg base TT kc n Φ) ∧ mg x = some (.ref f) ∧ PySem.W.keepIn K (.ref f) = true ∧ Binds K fd ps []
end
/-- the code object of the def at f -/
def CodeOf (K : PySem.W.Frag) (f : Addr) (cdv : Value) : Prop := ∃ oc od fd osl, K.lookup f = some ⟨oc, od, .func fd, osl⟩ ∧ fd.code = cdv
theorem CodeOf.one {K : PySem.W.Frag} {f : Addr} {a b : Value} (x : CodeOf K f a) (y : CodeOf K f b) : a = b := by
  obtain ⟨oc, od, fd, osl, e, rfl⟩ := x
  obtain ⟨oc', od', fd', osl', e', rfl⟩ := y
  rw [e] at e'
  cases e'
  rfl
section
variable {P : Program} {w : World} {K : PySem.W.Frag} {mg : Str → Option Value} {base : Heap} {TT : List (Addr × Str)} {kc : Nat}
theorem Dfn.g {x : Str} {k n : Nat} {Φ : Fs} (d : Dfn P w K mg base TT kc x k n Φ) : Gfn P w K mg base TT kc x k n Φ := by
  obtain ⟨f, fd, ps, h1, h2, h3⟩ := d.ex
  exact ⟨f, fd, ps, h1, .of h2, h3⟩
theorem dfn_of {x qual : Str} {st : Stmt} {N ps : List Str} {k : Nat} {Φ : Fs} {wb : WS} (F : Src K mg x qual st ps) (S : FnScope N ps (defScope st))
    (hbody : ∀ (f : Addr) (cdv : Value) (A : Around) (outer : List Env) (s : Shared) (H : Hp) (E : XK) (Z : Ext) (ow : List Addr), mg x = some (.ref f) → CodeOf K f cdv → Room k (A.deeper (envOfC qual (defScope st) s.heap.objs.size f cdv)) → Z.tabs = TT → Gr Z ow H →
      SimSs (cxOf (L2.CX P w) P w K mg base N qual (defScope st) f cdv A outer s H E) (fun cls d _ H' => E cls d H') Z (Clb P w K mg base kc Z) ow H (defBody st) wb)
    (hv : ∀ ys R Ex, ys.length = ps.length → ys.all argOk = true → Φ ys R Ex → wb (endW R Ex) (start0 N ys)) : Dfn P w K mg base TT kc x (k + 1) ps.length Φ := by
  obtain ⟨f, fd, hF, hm, hb⟩ := F.ex
  refine ⟨f, fd, ps, rfl, ?_, hm, hF.kp, hb⟩
  obtain ⟨oc, od, kV, doc, pm, an, cdv, ct, osl, rfl, lk, hcd⟩ := hF.ex
  refine fn_of lk hcd S (fun vs H Q E h => h.1) fun A outer s H vs Q E hr h => ?_
  obtain ⟨hl, Z, ow, hT, ys, R, Ex, gr, hy, ha, hΦ, hQ, hE⟩ := h
  refine ⟨_, PSsat.ps, ?_⟩
  refine hbody f cdv A outer s H E Z ow hm ⟨_, _, _, _, lk, rfl⟩ hr hT gr (hid ow H) (start0 N ys) _ H ow (endW R Ex) _ (rel_start gr hy ha) (hv ys R Ex (by rw [← hy.length]; exact hl) ha hΦ) ⟨fun ρ σ H' ow' p r => hQ (.d .none) .non H' p r.sb r.gr.ext .non, fun _ _ _ _ p _ => p.elim, fun _ _ _ _ p _ => p.elim, fun y v H' p e z h => hQ y v H' p e z h, fun x ρ σ H' ow' cls d p r er => ?_⟩
  refine hE x cls d H' p ⟨er.1, fun n => ?_⟩ r.sb r.gr.ext
  obtain ⟨dx, fs, h1, h2, h3, h4⟩ := er.2 n
  exact ⟨dx, fs, h1, h2, h3, DtAll.mono (hid_less r.sub) h4⟩
theorem gfn_of {x qual : Str} {st : Stmt} {N ps : List Str} {k : Nat} {Φ : Fs} {wb : WS} (F : Src K mg x qual st ps) (S : FnScope N ps (defScope st))
    (hbody : ∀ (f : Addr) (cdv : Value) (A : Around) (outer : List Env) (s : Shared) (H : Hp) (E : XK) (Z : Ext) (ow : List Addr), (A.deeper (envOfC qual (defScope st) s.heap.objs.size f cdv)).guards = some [] → Room k (A.deeper (envOfC qual (defScope st) s.heap.objs.size f cdv)) → Z.tabs = TT → Gr Z ow H →
      SimSs (cxOf (L2.CX P w) P w K mg base N qual (defScope st) f cdv A outer s H E) (fun cls d _ H' => E cls d H') Z (Clb P w K mg base kc Z) ow H (defBody st) wb)
    (hv : ∀ ys R Ex, ys.length = ps.length → ys.all argOk = true → Φ ys R Ex → wb (endW R Ex) (start0 N ys)) : Gfn P w K mg base TT kc x (k + 1) ps.length Φ := by
  obtain ⟨f, fd, hF, hm, hb⟩ := F.ex
  exact ⟨f, fd, ps, rfl, gn_W hF S (fun cdv A outer s H E Z ow hg hr _ hT gr => hbody f cdv A outer s H E Z ow hg hr hT gr) hv, hm, hF.kp, hb⟩
end
section
variable {X : Cx} {W : WX} {Z : Ext} {ow0 : List Addr} {Hb : Hp} {TT : List (Addr × Str)} {kc : Nat}
theorem sim_callD {k j n : Nat} {Φ : Fs} {x : Str} {p pos : Pos} {e : Expr} {es : List Expr} {wa : WA} (F : Dfn X.prog X.w X.K X.mg X.base TT kc x j n Φ) (hT : Z.tabs = TT) (hr : Room k X.A) (hj : j ≤ k) (tk : Takes X W) (hg : Gl X x) (ha : SimA X W Z (Clb X.prog X.w X.K X.mg X.base kc Z) ow0 Hb (e :: es) wa)
    (hdb : (x == ("__debug__" : Str)) = false := by decide) (he : starEach (e :: es) X.env = (false, eval e X.env) :: starEach es X.env := by rfl) (hpl : (backTo pos (starEach es X.env)).any (·.1) = false := by rfl) : SimE X W Z (Clb X.prog X.w X.K X.mg X.base kc Z) ow0 Hb (.Call (.Name x p) (e :: es) [] pos) (wCall n Φ wa) := by
  obtain ⟨f, fd, ps, rfl, h2, h3, h4, h5⟩ := F.ex
  exact sim_call h2 hT (hr.mono hj) tk hg h3 h4 h5 ha hdb he hpl
theorem sim_callGD {k j n : Nat} {Φ : Fs} {x : Str} {p pos : Pos} {e : Expr} {es : List Expr} {wa : WA} (F : Gfn X.prog X.w X.K X.mg X.base TT kc x j n Φ) (hT : Z.tabs = TT) (hgd : X.A.guards = some []) (hr : Room k X.A) (hj : j ≤ k) (tk : Takes X W) (hg : Gl X x) (ha : SimA X W Z (Clb X.prog X.w X.K X.mg X.base kc Z) ow0 Hb (e :: es) wa)
    (hdb : (x == ("__debug__" : Str)) = false := by decide) (he : starEach (e :: es) X.env = (false, eval e X.env) :: starEach es X.env := by rfl) (hpl : (backTo pos (starEach es X.env)).any (·.1) = false := by rfl) : SimE X W Z (Clb X.prog X.w X.K X.mg X.base kc Z) ow0 Hb (.Call (.Name x p) (e :: es) [] pos) (wCall n Φ wa) := by
  obtain ⟨f, fd, ps, rfl, h2, h3, h4, h5⟩ := F.ex
  exact sim_callG h2 hT hgd (hr.mono hj) tk hg h3 h4 h5 ha hdb he hpl
/-- a def's name as a callable -/
def wFnA (φ : Fn1) : WE := fun _ P _ => ∀ f, P (.fn f φ)
theorem sim_fnA {k : Nat} {Φ : Fs} {φ : Fn1} {x : Str} {pos : Pos} (F : Dfn X.prog X.w X.K X.mg X.base TT kc x k 1 Φ) (hT : Z.tabs = TT) (hk : k ≤ kc) (hg : Gl X x)
    (hφ : ∀ d R, φ d R → Φ [.d d] (fun y => match y with
      | .d x => R x
      | _ => False) (fun _ => False)) (hdb : (x == ("__debug__" : Str)) = false := by decide) : SimE X W Z (Clb X.prog X.w X.K X.mg X.base kc Z) ow0 Hb (.Name x pos) (wFnA φ) := by
  obtain ⟨f, fd, ps, h1, h2, h3, h4, h5⟩ := F.ex
  match ps, h1 with
  | [q], _ =>
    intro S ρ σ H ow P Ex Q r w g b
    exact PEat.of (pe_glob (v := .ref f) hg h3 rfl hdb) (g _ _ H (w f) (.refl _ _) r.gr.ext ⟨rfl, Clb.ofFn h2 hT hk h4 h5 hφ⟩)
theorem sim_callLD {k j : Nat} {Φ : Fs} {x p : Str} {xp pos lpos : Pos} {e body : Expr} {params : Arguments} {scope : Scope} {c P : Addr} {N : List Str} {we wb : WE} {jb : Nat} (F : Dfn X.prog X.w X.K X.mg X.base TT kc x j 2 Φ) (hT : Z.tabs = TT) (hr : Room k X.A) (hj : j ≤ k) (tk : Takes X W) (hg : Gl X x) (he : SimE X W Z (Clb X.prog X.w X.K X.mg X.base kc Z) ow0 Hb e we)
    (TB : LamX.TabB X.base X.mg c P) (hcode : X.env.code = .ref c) (hmT : (P, X.env.qual ++ "<lambda>") ∈ TT) (hu : ∀ p ∈ TT, p.1 = P → p.2 = X.env.qual ++ "<lambda>") (hjb : jb + 1 ≤ kc) (SN : NdefX.NScope N [p] [] scope) (hdef : defaultsOf params X.env = ([], [])) (hcl : ∀ cells, cloFrom cells scope.names [] = [])
    (hbind : ∀ (qual : Str) (u : Value) (pm cv ctv : Value), bindArgs (PySem.W.kla_fn "<lambda>" qual params body scope [] pm cv ctv) ⟨[u], []⟩ = pure [(p, u)])
    (hbody : ∀ (Z' : Ext) (f' c' : Addr) (A : Around) (outer : List Env) (s : Shared) (H : Hp) (E : XK) (ow : List Addr), Z'.tabs = TT → Room jb (A.deeper (NdefX.envF (lamNF (X.env.qual ++ "<lambda>") params scope c') f' s.heap.objs.size)) → Gr Z' ow H →
      SimE (NdefX.ncx (L2.CX X.prog X.w) X.prog X.w X.K X.mg X.base N (lamNF (X.env.qual ++ "<lambda>") params scope c') f' A outer s H E) (fun cls d _ H' => E cls d H') Z' (Clb X.prog X.w X.K X.mg X.base kc Z') ow H body wb)
    (hdb : (x == ("__debug__" : Str)) = false := by decide) (hs : starEach [e, .Lambda params body scope lpos] X.env = (false, eval e X.env) :: starEach [.Lambda params body scope lpos] X.env := by rfl) (hpl : (backTo pos (starEach [.Lambda params body scope lpos] X.env)).any (·.1) = false := by rfl)
    (hs2 : starEach [.Lambda params body scope lpos] X.env = (false, eval (.Lambda params body scope lpos) X.env) :: starEach [] X.env := by rfl) :
    SimE X W Z (Clb X.prog X.w X.K X.mg X.base kc Z) ow0 Hb (.Call (.Name x xp) [e, .Lambda params body scope lpos] [] pos)
      (wCallL Φ (fun d R => wb (start0 N [.d d]) (fun y => match y.kp with
        | some x => R x
        | none => False) fun _ => False) we) := by
  obtain ⟨f, fd, ps, h1, h2, h3, h4, h5⟩ := F.ex
  exact sim_callL h2 h1 hT (hr.mono hj) tk hg h3 h4 h5 he TB hcode (by rw [hT]; exact hmT) (by rw [hT]; exact hu) hjb SN hdef hcl hbind hbody hdb hs hpl hs2
end
end Pd

/-! Pd17: loops by invariants. -/
namespace Pd
open PySem PySem.Spec PyProof.Rows L2
theorem room_hu {k : Nat} {A : Around} (r : Room k A) : A.units + 200 < cLine := by have := r.un; omega
theorem forW_inv {b : WB} {body : WS} {E : En} (Inv : List D → Ev → Prop) (step : ∀ d ds ρ (K : Ev → Prop), Inv (d :: ds) ρ → (∀ ρ', Inv ds ρ' → K ρ') → b ρ d fun ρ' => body { E with nx := K, ct := K, bk := E.nx } ρ') (done : ∀ ρ, Inv [] ρ → E.nx ρ) :
    ∀ (ds : List D) (ρ : Ev), Inv ds ρ → forW b body E ds ρ
  | [], ρ, h => done ρ h
  | d :: ds, ρ, h => step d ds ρ (forW b body E ds) h fun ρ' h' => forW_inv Inv step done ds ρ' h'
theorem lcW_inv {b : WB} {tt : WT} {we : WE} {ρ0 : Ev} {P : List D → Prop} (Inv : List D → List D → Prop)
    (step : ∀ d ds acc (K : List D → Prop), Inv (d :: ds) acc → (∀ acc', Inv ds acc' → K acc') → b ρ0 d fun ρ' => tt ρ' (fun c => if c = true then we ρ' (fun y => match y.kp with
      | some e => K (acc ++ [e])
      | none => False) (fun _ => False) else K acc) (fun _ => False)) (done : ∀ acc, Inv [] acc → P acc) : ∀ (ds acc : List D), Inv ds acc → lcW b tt we ρ0 P ds acc
  | [], acc, h => done acc h
  | d :: ds, acc, h => step d ds acc (lcW b tt we ρ0 P ds) h fun acc' h' => lcW_inv Inv step done ds acc' h'
/-- each item made by g -/
theorem lcW_map {b : WB} {we : WE} {ρ0 : Ev} {P : List D → Prop} (g : D → D) {ds : List D} (h : ∀ d ∈ ds, ∀ K : D → Prop, K (g d) → b ρ0 d fun ρ' => we ρ' (fun y => match y.kp with
      | some e => K e
      | none => False) (fun _ => False)) : ∀ {acc : List D}, P (acc ++ ds.map g) → lcW b wYes we ρ0 P ds acc := by
  induction ds with
  | nil =>
    intro acc q
    simpa [lcW] using q
  | cons d ds ih =>
    intro acc q
    unfold lcW
    have := h d List.mem_cons_self (fun e => lcW b wYes we ρ0 P ds (acc ++ [e])) (ih (fun d m => h d (List.mem_cons_of_mem _ m)) (by simpa using q))
    exact this
end Pd

/-! Pd18: the law's end, for a law that is entered with nothing being shown. -/
namespace Pd
open PySem PySem.Spec PyProof.Rows L2
/-- what is tracked at the law's entry: the tables, the script -/
def H0 (K : PySem.W.Frag) (tabs : List Addr) (a : Addr) (o : Obj) (ns : List Int) : Hp := fun b =>
  if b ∈ tabs then some (.tbl #[]) else if b = a ∧ (K.lookup a).isNone = true then some (.frz o (.lst (ns.map V.int))) else none
section
variable {K : PySem.W.Frag} {tabs : List Addr} {a b : Addr} {o : Obj} {ns : List Int}
theorem H0.tab (h : b ∈ tabs) : H0 K tabs a o ns b = some (.tbl #[]) := if_pos h
theorem H0.no (h : b ∉ tabs) (h2 : ¬ (b = a ∧ (K.lookup a).isNone = true)) : H0 K tabs a o ns b = none := by
  unfold H0
  rw [if_neg h, if_neg h2]
theorem H0.scr (h : a ∉ tabs) (h2 : K.lookup a = none) : H0 K tabs a o ns a = some (.frz o (.lst (ns.map V.int))) := by
  unfold H0
  rw [if_neg h, if_pos ⟨rfl, by rw [h2]; rfl⟩]
theorem H0.cases {u : HO} (h : H0 K tabs a o ns b = some u) : (b ∈ tabs ∧ u = .tbl #[]) ∨ (b = a ∧ K.lookup a = none ∧ u = .frz o (.lst (ns.map V.int))) := by
  unfold H0 at h
  split at h
  · rename_i m
    exact .inl ⟨m, (Option.some.inj h).symm⟩
  · split at h
    · rename_i m
      refine .inr ⟨m.1, ?_, (Option.some.inj h).symm⟩
      cases q : K.lookup a with
      | none => rfl
      | some v => rw [q] at m; cases m.2
    · cases h
end
abbrev scrO (vs : List Value) : Obj := { cls := .type "list", data := .seq vs.toArray }
abbrev tabO : Obj := { cls := .none, data := .fields #[] }
theorem law_run {P : Program} {w : World} {K : PySem.W.Frag} {mg mb : Str → Option Value} {k : Nat} {fa a : Addr} {cs : List (Addr × Addr)} {fd : FuncData} {x : Str} {sp : Sp} {s : Shared} {vs : List Value} {ns : List Int}
    (kin : K.In s.heap) (glob : s.heap.Ns mainGlobals mg) (blt : s.heap.Ns builtinsNs mb) (bltIs : ∀ x : Str, x ≠ "__name__" → mb x = bootBuiltins x) (lim : s.heap.NoLimit) (noGens : s.gens = #[])
    (tabAt : ∀ p ∈ cs, s.heap.get? p.2 = some tabO) (tabK : ∀ p ∈ cs, K.lookup p.2 = none) (code : ∀ p ∈ cs, PySem.W.CodeHd s.heap p.1 p.2)
    (bmod : ∃ (bm : Addr) (ob : Obj), mg "__builtins__" = some (.ref bm) ∧ bm ≠ builtinsNs ∧ s.heap.get? bm = some ob ∧ ob.cls = .type "module" ∧ ob.dict = some builtinsNs ∧ ob.data = .plain)
    (scr : s.heap.get? a = some (scrO vs)) (areInts : IntsAre vs ns) (few : ns.length ≤ sizeLine) (hr : Room k callerA)
    (F : ∀ base : Heap, K.In base → base.Ns mainGlobals mg → (∀ p ∈ cs, LamX.TabB base mg p.1 p.2) → GnOk P w K mg base k fa fd [x] sp) (bnd : ∀ (s : Shared) (u : Value), BindsTo s fd ⟨[u], []⟩ [(x, u)])
    (start : ∀ H : Hp, (∀ p ∈ cs, H p.2 = some (.tbl #[])) → SqL K H a (ns.map V.int) → sp [.ref a] H (fun v _ => v = .bl true) fun _ _ _ => False) :
    codeAny (model P w) callerA (.call (.ref fa) ⟨[.ref a], []⟩) (fun r s' => r = .ok (.ret (.bool true)) ∧ OldK s.heap s'.heap ∧ s'.os = s.os ∧ AllBare s'.gens) s := by
  have rel := vals_ints areInts
  have many := areInts.length
  have inTab : ∀ {b}, b ∈ cs.map (·.2) → s.heap.get? b = some tabO := fun {b} m => by
    obtain ⟨p, hp, rfl⟩ := List.mem_map.mp m
    exact tabAt p hp
  have aNo : a ∉ cs.map (·.2) := fun m => by
    have q := (inTab m).symm.trans scr
    have z : Data.fields #[] = Data.seq vs.toArray 0 := congrArg Obj.data (Option.some.inj q)
    cases z
  generalize hH : H0 K (cs.map (·.2)) a (scrO vs) ns = H
  have onTab : ∀ p ∈ cs, H p.2 = some (.tbl #[]) := fun p hp => by rw [← hH]; exact H0.tab (List.mem_map.mpr ⟨p, hp, rfl⟩)
  have split : ∀ {b u}, H b = some u → (b ∈ cs.map (·.2) ∧ u = .tbl #[]) ∨ (b = a ∧ K.lookup a = none ∧ u = .frz (scrO vs) (.lst (ns.map V.int))) := fun {b u} e => H0.cases (by rw [hH]; exact e)
  have held : HOk P w H s.heap := fun b u e => by
    rcases split e with ⟨m, rfl⟩ | ⟨rfl, _, rfl⟩
    · exact inTab m
    · exact ⟨scr, by rw [List.length_map]; exact few, vs, _, rel, scr⟩
  have isScr : SqL K H a (ns.map V.int) := by
    cases q : K.lookup a with
    | none => exact .inl (.inr ⟨scrO vs, by rw [← hH]; exact H0.scr aNo q⟩)
    | some o =>
      have e := (kin a o q).symm.trans scr
      cases e
      exact .inr ⟨_, vs.toArray, _, q, rfl, rfl, rfl, by rw [List.size_toArray, many]; exact few, by simpa using rel⟩
  -- what is neither a table nor the script is not tracked
  have free : ∀ {b : Addr} {o : Obj}, s.heap.get? b = some o → (∀ us n, o.data ≠ .seq us n) → o.data ≠ .fields #[] → H b = none := fun {b o} e n1 n2 => by
    cases q : H b with
    | none => rfl
    | some u =>
      rcases split q with ⟨m, _⟩ | ⟨rfl, _, _⟩
      · have z := (inTab m).symm.trans e
        cases z
        exact (n2 rfl).elim
      · have z := scr.symm.trans e
        cases z
        exact (n1 _ _ rfl).elim
  have kept : ∀ {b : Addr} {o : Obj}, s.heap.get? b = some o → (∀ us n, o.data ≠ .seq us n) → o.data ≠ .fields #[] → (hidT s.heap H).get? b = some o := fun e n1 n2 => hidT_get e (free e n1 n2)
  have ns' : ∀ {b : Addr} {m : Str → Option Value}, s.heap.Ns b m → (hidT s.heap H).Ns b m := fun {b m} ⟨o, es, ep, e, d, r⟩ => ⟨o, es, ep, kept e (fun us n z => by rw [d] at z; cases z) (fun z => by rw [d] at z; cases z), d, r⟩
  have kin' : K.In (hidT s.heap H) := fun b o e => hidT_get (kin b o e) (by
    cases q : H b with
    | none => rfl
    | some u =>
      rcases split q with ⟨m, _⟩ | ⟨rfl, z, _⟩
      · obtain ⟨p, hp, rfl⟩ := List.mem_map.mp m
        rw [tabK p hp] at e
        cases e
      · rw [z] at e
        cases e)
  have tb : ∀ p ∈ cs, LamX.TabB (hidT s.heap H) mg p.1 p.2 := fun p hp => by
    refine ⟨?_, ?_, fun z => ?_⟩
    · obtain ⟨oc, us, file, tf, flags, tg, inF, text, tt, e1, r1, r2, r3, rest⟩ := code p hp
      refine ⟨oc, us, file, tf, flags, tg, inF, text, tt, kept e1 (fun us n z => by rw [r2] at z; cases z) (fun z => ?_), r1, r2, r3, rest⟩
      rw [r2] at z
      cases z
      simp at r3
    · obtain ⟨bm, ob, b1, b2, b3, b4, b5, b6⟩ := bmod
      refine ⟨bm, ob, b1, b2, fun q => ?_, fun q => ?_, kept b3 (fun us n z => by rw [b6] at z; cases z) (fun z => by rw [b6] at z; cases z), b4, b5, b6⟩
      · obtain ⟨o, es, ep, e, hd, _⟩ := glob
        rw [← q, b3] at e
        cases e
        rw [hd] at b6
        cases b6
      · rw [q, tabAt p hp] at b3
        cases b3
        cases b6
    · obtain ⟨o, es, ep, e, hd, _⟩ := glob
      rw [z, tabAt p hp] at e
      cases e
      cases hd
  have entry : Env0 P w K mg (hidT s.heap H) callerA [] s H := ⟨rfl, ⟨kin', ns' glob, ⟨mb, ns' blt, bltIs⟩, let ⟨mc, h1, h2⟩ := lim; ⟨mc, ns' h1, h2⟩⟩, fun b o e => of_hidT e, Nat.le_of_eq (hidT_size _ _), trivial, fun b hb => absurd hb (by simp [frs]), held, .of_eq noGens⟩
  refine codeAny_mono ((F _ kin' (ns' glob) tb).run callerA [] s H ⟨[.ref a], []⟩ [.ref a] [.ref a] _ _ rfl hr entry (bnd s (.ref a)) (.cons rfl .nil) (start H onTab isScr)) fun r s' out => ?_
  rcases r with e | fl
  · obtain ⟨_, _, _, _, _, _, _, _, _, _, _, _, z⟩ := out
    exact z.elim
  · cases fl with
    | next => exact False.elim out
    | brk => exact False.elim out
    | cont => exact False.elim out
    | ret u =>
      obtain ⟨v, H', os, bare, un, held', rv, q⟩ := out
      obtain rfl : v = .bl true := q
      obtain rfl : u = Value.bool true := rv
      have stays : ∀ b o, b ∉ cs.map (·.2) → s.heap.get? b = some o → s'.heap.get? b = some o := fun b o nb e => by
        cases q : H b with
        | none => exact un.keep b o e q (by simp [frs]) (by simp)
        | some u =>
          rcases split q with ⟨m, _⟩ | ⟨_, _, rfl⟩
          · exact absurd m nb
          · obtain ⟨e1, _⟩ := held b _ q
            obtain ⟨e2, _⟩ := held' b _ (un.frzs b _ _ q)
            rw [e1] at e
            cases e
            exact e2
      have grew : ∀ p ∈ cs, ∃ more : Array Value, s'.heap.get? p.2 = some { cls := .none, data := .fields more } := fun p hp => by
        obtain ⟨more, z⟩ := un.tbls p.2 #[] (onTab p hp)
        exact ⟨_, held' p.2 _ z⟩
      refine ⟨rfl, ⟨fun b o e => ?_, fun b o e => ?_⟩, os, bare⟩
      · by_cases m : b ∈ cs.map (·.2)
        · obtain ⟨p, hp, rfl⟩ := List.mem_map.mp m
          obtain ⟨more, hm⟩ := grew p hp
          have z := (tabAt p hp).symm.trans e
          cases z
          exact .inr (.inl ⟨((code p hp).tab (tabAt p hp)).isCodeTable, rfl, #[], more, rfl, by rw [Array.empty_append]; exact hm⟩)
        · exact .inl (stays b o m e)
      · by_cases m : b ∈ cs.map (·.2)
        · obtain ⟨p, hp, rfl⟩ := List.mem_map.mp m
          obtain ⟨more, hm⟩ := grew p hp
          exact ⟨_, hm⟩
        · exact ⟨o, stays b o m e⟩
/-- what the head gives of the law -/
def LawAtG (l : PySem.W.OpenLaw) (w : World) (K : PySem.W.Frag) (k n : Nat) (x : Str) (mg : Str → Option Value) (fa : Addr) (h : Heap) : Prop :=
  ∃ (fd : FuncData) (cs : List (Addr × Addr)) (sp : Sp), (∀ p ∈ cs, h.get? p.2 = some tabO) ∧ (∀ p ∈ cs, K.lookup p.2 = none) ∧ (∀ p ∈ cs, PySem.W.CodeHd h p.1 p.2) ∧ (∀ (s : Shared) (u : Value), BindsTo s fd ⟨[u], []⟩ [(x, u)]) ∧
    (∀ (H : Hp) (a : Addr) (ns : List Int), ns.length ≤ n → (∀ p ∈ cs, H p.2 = some (.tbl #[])) → SqL K H a (ns.map V.int) → sp [.ref a] H (fun v _ => v = .bl true) fun _ _ _ => False) ∧
    ∀ base : Heap, K.In base → base.Ns mainGlobals mg → (∀ p ∈ cs, LamX.TabB base mg p.1 p.2) → GnOk l.prog w K mg base k fa fd [x] sp
theorem law_walk {l : PySem.W.OpenLaw} {n k : Nat} {q : Program} {loose : List Str} {XP : (Str → Option Value) → Heap → Prop} {YP : World → Heap → Prop} {d : DefRec} {K : Params → PySem.W.Frag} {x : Str}
    (hn : l.most = some n) (hn2 : n ≤ sizeLine) (hdf : d.params.defaults = []) (hr : Room k callerA) (hY : ∀ (w : World) (h : Heap), YP w h → (K w.params).In h)
    (F : ∀ (w : World) (mg : Str → Option Value) (fa : Addr) (h : Heap), YP w h → (K w.params).In h → h.Ns mainGlobals mg → mg d.name = some (.ref fa) → LawAtG l w (K w.params) k n x mg fa h) :
    PySem.W.WalkO q loose XP YP l.row.toRowW d [] (fun f vs => PySem.call f vs) := by
  refine Att.attach_callB hn hdf fun w s₀ s mg mb fa o pm cd doc a vs ns G Y ho hd hcd hmg scr areInts few bits noGens => ?_
  obtain ⟨fd, cs, sp, tabAt, tabK, code, bnd, start, run⟩ := F w mg fa _ Y (hY w _ Y) G.T.g hmg
  exact law_run (hY w _ Y) G.T.g G.T.b G.T.builtins G.T.nolimit noGens tabAt tabK code G.T.bmain scr areInts (Nat.le_trans few hn2) hr run bnd fun H h1 h2 => start H a ns few h1 h2
end Pd

/-! Pd19: the law's bag made from the script; the law by what stands behind it. -/
namespace Pd
open PySem PySem.Spec PyProof.Rows L2
def spBag (K : PySem.W.Frag) (TT : List (Addr × Str)) : Sp := fun vs H Q _ => ∃ (a : Addr) (ns : List Int), vs = [.ref a] ∧ SqL K H a (ns.map V.int) ∧ ns.length ≤ 63 ∧ LamX.Tabs TT H ∧ ∀ b c H', LamX.Tabs TT H' → BagAt H' b c → Q (.ref b) H'
def spLaw (K : PySem.W.Frag) (TT : List (Addr × Str)) : Sp := fun vs H Q _ => ∃ (a : Addr) (ns : List Int), vs = [.ref a] ∧ SqL K H a (ns.map V.int) ∧ ns.length ≤ 63 ∧ LamX.Tabs TT H ∧ ∀ H', Q (.bl true) H'
def noBag (TT : List (Addr × Str)) : Ext := ⟨none, TT, []⟩
theorem gr_noBag {TT : List (Addr × Str)} {H : Hp} (h : LamX.Tabs TT H) : Gr (noBag TT) [] H := by
  refine ⟨⟨True.intro, h, ?_⟩, ?_, ?_⟩ <;> (intro x m; exact absurd m (by simp [noBag, fp, fpB]))
theorem SqL.same {K : PySem.W.Frag} {H H' : Hp} {a : Addr} {xs : List V} (h : SqL K H a xs) (e : SameBut [] H H') : SqL K H' a xs := by
  rcases h with (h | ⟨o, h⟩) | h
  · exact .inl (.inl (e a _ (by simp) nt_lst h))
  · exact .inl (.inr ⟨o, e a _ (by simp) (fun ps z => by cases z) h⟩)
  · exact .inr h
def isScr (a : Addr) : Calls := fun f _ => f = a
def fn0 : Fn1 := fun _ _ => False
section
variable {X : Cx} {W : WX} {TT : List (Addr × Str)} {Hb : Hp} {a : Addr} {ns : List Int}
def wScr (ns : List Int) : WI := fun ρ P _ => ρ[0]? = some (some (.fn a fn0)) ∧ P (ns.map .int)
theorem sim_scr {tg : Expr} {x : Str} {xp p2 p3 pos : Pos} {j : Nat} (hS : SqL X.K Hb a (ns.map V.int)) (few : ns.length ≤ 63) (hN : X.N[0]? = some x := by rfl) (hv : Vis X.env.scope x := by first | exact Or.inl rfl | exact Or.inr (Or.inl rfl) | exact Or.inr (Or.inr rfl))
    (hd : (x == ("__debug__" : Str)) = false := by decide) (hcd : (x == ("__classdict__" : Str)) = false := by decide) :
    SimI X W (noBag TT) (isScr a) [] Hb tg (.Subscript (.Name x xp) (.Slice none (some (.Constant (.int 63) j p3)) none p2) pos) (wScr (a := a) ns) := by
  intro S ρ σ H ow P Ex R r w g b
  obtain ⟨v, h1, rfl, _⟩ := r.val 0 _ w.1
  have now : SqL X.K H a (ns.map V.int) := SqL.same hS r.sb
  refine PIat.of (pi_list (pe_slice sl_list (pe_var hN hv hd hcd) po_none (po_some pe_int))) ⟨.ref a, h1, 63, rfl, a, _, rfl, now, fun p hp => ⟨p, rfl, ⟨_, .inl (.of upd_same)⟩, ?_⟩⟩
  have cut : cutV (ns.map V.int) none (some 63) = ns.map V.int := by
    unfold cutV
    simp only [HT.sIx, List.length_map]
    rw [if_neg (by decide)]
    have e : min (63 : Int).toNat ns.length = ns.length := by omega
    rw [e]
    exact List.take_of_length_le (by simp)
  have np : p ∉ ow := r.gr.no (.of hp)
  have le := Le.new (o := .lst (ns.map V.int)) hp
  rw [cut]
  refine g _ _ _ w.2 (.of_le le) (r.gr.ext.le le) (itD_lst (vs := ns.map V.int) (hid_of np upd_same nt_lst) (DtAll.ofInts ns)) fun _ => ?_
  rw [List.length_map, sizeLine_eq]
  omega
end
def wBagOf (a : Addr) (ns : List Int) : WS := wRetO (wLst (wCons (wC (.int 0)) (wCons (wC (.int 1234567891)) (wCons (wC (.int 0)) (wCons (wLc (wScr (a := a) ns) (bName 1) wYes (wCB bAbs (wCons (wVar 1) wNil)) [1]) wNil)))))
def absI (i : Int) : Int := if i < 0 then -i else i
def bagEnd (ns : List Int) : En := { nx := fun _ => False, rt := fun y => y = .own [.int 0, .int 1234567891, .int 0, .list ((ns.map absI).map .int)] }
theorem bag_vc (a : Addr) (ns : List Int) : wBagOf a ns (bagEnd ns) [some (.fn a fn0), none] := by
  refine ⟨rfl, lcW_map (fun d => match d with
    | .int i => .int (absI i)
    | d => d) (fun d m K hK => ?_) ?_⟩
  · obtain ⟨i, _, rfl⟩ := List.mem_map.mp m
    exact hK
  · refine ⟨by rw [sizeLine_eq]; show 4 ≤ _; omega, ?_⟩
    show Val.own _ = Val.own _
    simp [Function.comp_def]
section
variable {P : Program} {w : World} {K : PySem.W.Frag} {mg : Str → Option Value} {base : Heap} {TT : List (Addr × Str)}
theorem bag_fn {st : Stmt} {f : Addr} {fd : FuncData} {k : Nat} (F : Fun K "_law_bag" "_law_bag" st f fd) (S : FnScope ["script", "cell"] ["script"] (defScope st))
    (hbody : ∀ (cdv : Value) (A : Around) (outer : List Env) (s : Shared) (H : Hp) (E : XK) (a : Addr) (ns : List Int), SqL K H a (ns.map V.int) → ns.length ≤ 63 → Gr (noBag TT) [] H →
      SimSs (cxOf (L2.CX P w) P w K mg base ["script", "cell"] "_law_bag" (defScope st) f cdv A outer s H E) W0 (noBag TT) (isScr a) [] H (defBody st) (wBagOf a ns)) : FnOk P w K mg base (L2.CX P w) (k + 1) f fd ["script"] (spBag K TT) := by
  refine F.okX S (fun vs H Q E ⟨a, ns, e, _⟩ => by rw [e]; rfl) fun cdv A outer s H vs Q E hr h => ?_
  obtain ⟨a, ns, rfl, hS, few, hT, done⟩ := h
  have gr := gr_noBag hT
  refine ⟨_, PSsat.ps, ?_⟩
  refine hbody cdv A outer s H E a ns hS few gr (hid [] H) [some (.fn a fn0), none] _ H [] (bagEnd ns) _ ⟨gr, rfl, .refl _ _, fun _ m => m, .refl _, fun i y e => ?_, fun i j xs ys p n e1 e2 _ _ => ?_⟩ (bag_vc a ns) ⟨fun _ _ _ _ p _ => p.elim, fun _ _ _ _ p _ => p.elim, fun _ _ _ _ p _ => p.elim, fun y v H' p e z hv => ?_, fun _ _ _ _ _ _ _ p _ _ => p.elim⟩
  · match i, e with
    | 0, e => cases e; exact ⟨.ref a, rfl, rfl, rfl⟩
    | 1, e => cases e
    | i + 2, e => cases e
  · match i, e1 with
    | 0, e => cases e
    | 1, e => cases e
    | i + 2, e => cases e
  · cases p
    obtain ⟨b, vs, rfl, hn, _, hb, hd⟩ := hv
    cases hd with
    | cons d1 hd =>
      cases d1
      cases hd with
      | cons d2 hd =>
        cases d2
        cases hd with
        | cons d3 hd =>
          cases d3
          cases hd with
          | cons d4 hd =>
            cases hd
            cases d4 with
            | lst hc hcs =>
              rename_i c cv
              obtain ⟨m, hc', _⟩ := hid_some hc
              have e := hcs.ints
              subst e
              refine done b c H' z.tabs ⟨0, 1234567891, 0, ns.map absI, hb, hc', by decide, by decide, by decide, by decide, fun n hn => ?_, by rw [List.length_map]; exact few, fun q => m (by rw [q]; exact List.mem_cons_self)⟩
              obtain ⟨i, _, rfl⟩ := List.mem_map.mp hn
              unfold absI
              split <;> omega
/-- what the law is to do behind the bag's making -/
def lawEnd : En := { nx := fun _ => False, rt := fun y => y = .d (.bool true) }
def lawStart (N : List Str) : Ev := none :: some .bag :: List.replicate (N.length - 2) none
theorem law_fn {st : Stmt} {f fB : Addr} {fd fdB : FuncData} {N : List Str} {k kb kc : Nat} {wb : WS} {p1 p2 p3 p4 p5 : Pos} (F : Fun K "law" "law" st f fd) (S : FnScope N ["script"] (defScope st)) (hb : defBody st = .Assign [.Name "bag" p1] (.Call (.Name "_law_bag" p2) [.Name "script" p3] [] p4) p5 :: (defBody st).tail)
    (FB : FnOk P w K mg base (L2.CX P w) kb fB fdB ["script"] (spBag K TT)) (hkb : kb ≤ k) (hmB : mg "_law_bag" = some (.ref fB)) (hkB : PySem.W.keepIn K (.ref fB) = true) (hbB : Binds K fdB ["script"] [])
    (h0 : N[0]? = some ("script" : Str)) (h1 : N[1]? = some ("bag" : Str)) (v0 : Vis (defScope st) "script") (l1 : Loc (defScope st) "bag") (g1 : (defScope st).names.lookup ("_law_bag" : Str) = some .globalImplicit)
    (hbody : ∀ (cdv : Value) (A : Around) (outer : List Env) (s : Shared) (H : Hp) (E : XK) (Z : Ext) (ow : List Addr) (Hb : Hp), CodeOf K f cdv → (cxOf (L2.CX P w) P w K mg base N "law" (defScope st) f cdv A outer s H E).A.guards = some [] → Room k (cxOf (L2.CX P w) P w K mg base N "law" (defScope st) f cdv A outer s H E).A → Z.tabs = TT → Gr Z ow Hb →
      SimSs (cxOf (L2.CX P w) P w K mg base N "law" (defScope st) f cdv A outer s H E) (fun cls d _ H' => E cls d H') Z (Clb P w K mg base kc Z) ow Hb (defBody st).tail wb)
    (hv : wb lawEnd (lawStart N)) : GnOk P w K mg base (k + 1) f fd ["script"] (spLaw K TT) := by
  obtain ⟨oc, od, kV, doc, pm, an, cdv, ct, osl, rfl, lk, hcd⟩ := F.ex
  refine ⟨fun vs H Q E ⟨a, ns, e, _⟩ => by rw [e]; rfl, fun A outer s H args us vs Q E hg hr e0 hbd rv h => ?_⟩
  obtain ⟨a, ns, rfl, hS, few, hT, done⟩ := h
  refine LamX.run_ofS lk hcd S hr e0 hbd rv rfl fun hr' => ?_
  have hlen : 2 ≤ N.length := by
    have := (List.getElem?_eq_some_iff.mp h1).1
    omega
  have glob : Gl (cxOf (L2.CX P w) P w K mg base N "law" (defScope st) f cdv A outer s H E) "_law_bag" := g1
  let W' : WX := fun cls d _ H' => E cls d H'
  rw [hb]
  refine ⟨_, pss_cons (ps_set (X := cxOf (L2.CX P w) P w K mg base N "law" (defScope st) f cdv A outer s H E) (i := 1) S.nd h1 l1 (pe_callSD (E := L2.WE W0) FB (hr'.mono hkb) glob hmB hkB hbB .nil (fun σ => passAt LamX.takes0 σ) (pa_cons (pe_var (i := 0) h0 v0 (by decide) (by decide)) pa_nil)) rfl) (PSsat.ps (st := (defBody st).tail)), ?_⟩
  refine ⟨.ref a, rfl, a, ns, rfl, hS, few, hT, fun b c H1 T1 B1 => ?_⟩
  have rz : RZ ⟨some (b, c), TT, []⟩ H1 := ⟨B1, T1, fun p m => by cases m⟩
  have gr : Gr ⟨some (b, c), TT, []⟩ [b, c] H1 := ⟨rz, fun x m => m, fun x m => by
    obtain ⟨us, e⟩ := RB.lists (z := some (b, c)) B1 x m
    exact ⟨_, nt_lst, e⟩⟩
  refine hbody cdv A outer s H E _ [b, c] H1 ⟨_, _, _, _, lk, rfl⟩ hg hr' rfl gr (hid [b, c] H1) (lawStart N) _ H1 [b, c] lawEnd _ ⟨gr, ?_, .refl _ _, fun _ m => m, .refl _, fun i y e => ?_, fun i j xs ys p n e1 e2 _ _ => ?_⟩ hv ⟨fun _ _ _ _ p _ => p.elim, fun _ _ _ _ p _ => p.elim, fun _ _ _ _ p _ => p.elim, fun y v H' p e z hv => ?_, fun _ _ _ _ _ _ _ p _ _ => p.elim⟩
  · unfold lawStart L2.start
    simp
    omega
  · match i, e with
    | 0, e => cases e
    | 1, e =>
      cases e
      refine ⟨.ref b, ?_, b, c, rfl, rfl⟩
      show ((L2.start N [.ref a]).set 1 (some (.ref b)))[1]? = _
      rw [List.getElem?_set_self]
      unfold L2.start
      simp
      omega
    | i + 2, e =>
      unfold lawStart at e
      rw [List.getElem?_cons_succ, List.getElem?_cons_succ, List.getElem?_replicate] at e
      split at e <;> cases e
  · match i, e1 with
    | 0, e => cases e
    | 1, e => cases e
    | i + 2, e =>
      unfold lawStart at e
      rw [List.getElem?_cons_succ, List.getElem?_cons_succ, List.getElem?_replicate] at e
      split at e <;> cases e
  · cases p
    have hv : Dt K (hid [b, c] H') v (.bool true) := hv
    cases hv
    exact done H'
end

/-- an error of the class at C is what «except C» names -/
theorem exm_of {K : PySem.W.Frag} {C : Addr} (b : PySem.W.subIn K (.ref C) (.type "BaseException") = some true) (i : PySem.W.isClsIn K C = true) (t : PySem.W.typeIn K (.ref C) = some (.type "type")) (r : PySem.W.subIn K (.ref C) (.ref C) = some true) : PySem.W.exmOne K (.ref C) (.ref C) = some true := by
  have isC : (PySem.W.clsIn K C).isSome = true := i
  have ok1 : (PySem.W.subIn K (.ref C) (.type "BaseException") == some true) = true := by rw [b]; rfl
  have ok2 : ((PySem.W.clsIn K C).isSome && PySem.W.typeIn K (.ref C) == some (.type "type")) = true := by rw [isC, t]; rfl
  refine Eq.trans (if_pos ok1) (Eq.trans (if_pos ok2) r)
end Pd

namespace Pd
open PySem PySem.Spec PyProof.Rows L2
def isNum (x : D) : Bool := isIntD x && !isBoolD x
def Φ_is_number : Fs := fun ys P _ => ∃ x, ys = [.d x] ∧ P (.d (.bool (isNum x)))
def isPos : D → Bool
  | .int i => decide (-1 ≤ i) && decide (i ≤ 1)
  | _ => false
def Φ_is_position : Fs := fun ys P _ => ∃ x, ys = [.d x] ∧ P (.d (.bool (isPos x)))
def Φ_is_tuple_of : Fs := fun ys P _ => ∃ x f φ, ys = [.d x, .fn f φ] ∧ ((∃ ds g, x = .tuple ds ∧ (∀ d ∈ ds, ∀ R : D → Prop, R (.bool (g d)) → φ d R) ∧ P (.d (.bool (ds.all g)))) ∨ (isTupleD x = false ∧ P (.d (.bool false))))
def isWay (d : D) : Bool := isPos d && !(PyData.eqv d (.int 0))
def waysD : D → Bool
  | .tuple ds => ds.all isWay
  | _ => false
def Φ_are_ways : Fs := fun ys P _ => ∃ x, ys = [.d x] ∧ P (.d (.bool (waysD x)))
def lower (a b : Int) : Int := if b < a then b else a
def upper (a b : Int) : Int := if b > a then b else a
def ledI (p : Int) (ws : List Int) : Int := ws.foldl (fun p w => upper (-1) (lower 1 (p + w))) p
def noth : Xn := ⟨"Nothing", []⟩
def Φ_led : Fs := fun ys P Ex => ∃ x y, ys = [.d x, .d y] ∧ ((∃ p ws, x = .int p ∧ y = .tuple (ws.map .int) ∧ isPos x = true ∧ waysD y = true ∧ P (.d (.int (ledI p ws)))) ∨ ((isPos x = false ∨ waysD y = false) ∧ Ex noth))
def cutI (ws : List Int) (b e : Nat) : List Int := (ws.drop b).take (e - b)
def leads (ws : List Int) (be : Nat × Nat) : Bool := (cutI ws be.1 be.2).sum.natAbs == 2
/-- begin b, b + 1, .. (k of them) -/
def inF (ws : List Int) (e : Nat) : Nat → Nat → Option (Nat × Nat)
  | 0, _ => none
  | k + 1, b => if leads ws (b, e) = true then some (b, e) else inF ws e k (b + 1)
/-- end e, e + 1, .. -/
def outF (ws : List Int) : Nat → Nat → Option (Nat × Nat)
  | 0, _ => none
  | k + 1, e => match inF ws e (e - 1) 0 with
    | some r => some r
    | none => outF ws k (e + 1)
def stretchF (ws : List Int) : Option (Nat × Nat) := outF ws (ws.length - 1) 2
def spanD : Option (Nat × Nat) → D
  | some (b, e) => .tuple [.int b, .int e]
  | none => .none
def Φ_stretch : Fs := fun ys P Ex => ∃ y, ys = [.d y] ∧ ((∃ ws : List Int, y = .tuple (ws.map .int) ∧ waysD y = true ∧ ws.length ≤ 100 ∧ P (.d (spanD (stretchF ws)))) ∨ (waysD y = false ∧ Ex noth))
def Φ_leads_all : Fs := fun ys P Ex => ∃ y, ys = [.d y] ∧ ((∃ ws : List Int, y = .tuple (ws.map .int) ∧ waysD y = true ∧ ws.length ≤ 100 ∧ P (.d (.bool (stretchF ws).isSome))) ∨ (waysD y = false ∧ Ex noth))
def Φ__law_take : Fs := fun ys P _ => ∃ m : Int, ys = [.bag, .d (.int m)] ∧ 0 < m ∧ m < 1073741824 ∧ ∀ v, 0 ≤ v → v < m → P (.d (.int v))
def Φ__law_some : Fs := fun ys P _ => ∃ xs : List D, ys = [.bag, .d (.list xs)] ∧ xs ≠ [] ∧ xs.length < 1073741824 ∧ ∀ x ∈ xs, P (.d x)
def Φ__law_alike : Fs := fun ys P _ => ∃ a : D, ys = [.d a, .d a] ∧ a.showable = true ∧ a.shown.length ≤ sizeLine ∧ a.depth ≤ 100 ∧ PyData.eqv a a = true ∧ P (.d (.bool true))
def Φ__law_led : Fs := fun ys P _ => ∃ (p : Int) (ws : List Int), ys = [.d (.int p), .d (.tuple (ws.map .int))] ∧ P (.d (.int (ledI p ws)))
def top (i : Nat) : Stmt := PySem.Challenge.pw_sevenpedals_k14_ways_that_lead_to_one_po.main.body.getD i (.Pass ⟨0, 0, 0, 0⟩)
structure Bs (mg : Str → Option Value) : Prop where
  b_abs : mg "abs" = none
  b_all : mg "all" = none
  b_bool : mg "bool" = none
  b_int : mg "int" = none
  b_isinstance : mg "isinstance" = none
  b_len : mg "len" = none
  b_list : mg "list" = none
  b_max : mg "max" = none
  b_min : mg "min" = none
  b_range : mg "range" = none
  b_repr : mg "repr" = none
  b_set : mg "set" = none
  b_sorted : mg "sorted" = none
  b_sum : mg "sum" = none
  b_tuple : mg "tuple" = none
section
variable {P : Program} {w : World} {K : PySem.W.Frag} {mg : Str → Option Value} {base : Heap} {TT : List (Addr × Str)}
abbrev kc : Nat := 12
abbrev st_is_number : Stmt := top 5
def N_is_number : List Str := ["thing"]
theorem sc_is_number : FnScope N_is_number ["thing"] (defScope st_is_number) := ⟨rfl, rfl, rfl, by decide +kernel, rfl, by decide +kernel, by decide +kernel⟩
def w_is_number : WS := (wRet (wAnd (wIsi isIntD (wVar 0)) (wNot (wIsi isBoolD (wVar 0)))))
def V_is_number : Prop := ∀ (ys : List Val) (R : Val → Prop) (Ex : Xn → Prop), ys.length = 1 → ys.all argOk = true → Φ_is_number ys R Ex → w_is_number (endW R Ex) (start0 N_is_number ys)
set_option maxHeartbeats 4000000 in
theorem s_is_number (B : Bs mg) (S : Src K mg "is_number" "is_number" st_is_number ["thing"]) (v : V_is_number) : Dfn P w K mg base TT kc "is_number" 1 1 Φ_is_number := by
  refine dfn_of (k := 0) S sc_is_number (fun f cdv A outer s H E Z ow hm hc hr hT gr => ?_) v
  have tk := takes_of (X := cxOf (L2.CX P w) P w K mg base N_is_number "is_number" (defScope st_is_number) f cdv A outer s H E) rfl rfl rfl rfl
  have po : PassesOwn (model P w) (cxOf (L2.CX P w) P w K mg base N_is_number "is_number" (defScope st_is_number) f cdv A outer s H E).A (cxOf (L2.CX P w) P w K mg base N_is_number "is_number" (defScope st_is_number) f cdv A outer s H E).env (cxOf (L2.CX P w) P w K mg base N_is_number "is_number" (defScope st_is_number) f cdv A outer s H E).xe := passes_of rfl
  have hu := room_hu hr
  skip
  exact (sim_bone (sim_ret (sim_vand (sim_isi ci_int rfl B.b_isinstance rfl B.b_int (by decide +kernel) (sim_var 0)) (sim_vone (sim_vnot (sim_isi ci_bool rfl B.b_isinstance rfl B.b_bool (by decide +kernel) (sim_var 0)))))))
abbrev st_is_tuple_of : Stmt := top 6
def N_is_tuple_of : List Str := ["thing", "is_one", "one"]
theorem sc_is_tuple_of : FnScope N_is_tuple_of ["thing", "is_one"] (defScope st_is_tuple_of) := ⟨rfl, rfl, rfl, by decide +kernel, rfl, by decide +kernel, by decide +kernel⟩
def w_is_tuple_of : WS := (wRet (wAnd (wIsi isTupleD (wVar 0)) (wCB bAll (wCons (wLc (wIt (wVar 0)) (bName 2) wYes (wCallV 1 (wVar 2)) [2]) wNil))))
def V_is_tuple_of : Prop := ∀ (ys : List Val) (R : Val → Prop) (Ex : Xn → Prop), ys.length = 2 → ys.all argOk = true → Φ_is_tuple_of ys R Ex → w_is_tuple_of (endW R Ex) (start0 N_is_tuple_of ys)
set_option maxHeartbeats 4000000 in
theorem s_is_tuple_of (B : Bs mg) (S : Src K mg "is_tuple_of" "is_tuple_of" st_is_tuple_of ["thing", "is_one"]) (v : V_is_tuple_of) : Dfn P w K mg base TT kc "is_tuple_of" 13 2 Φ_is_tuple_of := by
  refine dfn_of (k := 12) S sc_is_tuple_of (fun f cdv A outer s H E Z ow hm hc hr hT gr => ?_) v
  have tk := takes_of (X := cxOf (L2.CX P w) P w K mg base N_is_tuple_of "is_tuple_of" (defScope st_is_tuple_of) f cdv A outer s H E) rfl rfl rfl rfl
  have po : PassesOwn (model P w) (cxOf (L2.CX P w) P w K mg base N_is_tuple_of "is_tuple_of" (defScope st_is_tuple_of) f cdv A outer s H E).A (cxOf (L2.CX P w) P w K mg base N_is_tuple_of "is_tuple_of" (defScope st_is_tuple_of) f cdv A outer s H E).env (cxOf (L2.CX P w) P w K mg base N_is_tuple_of "is_tuple_of" (defScope st_is_tuple_of) f cdv A outer s H E).xe := passes_of rfl
  have hu := room_hu hr
  skip
  exact (sim_bone (sim_ret (sim_vand (sim_isi ci_tuple rfl B.b_isinstance rfl B.b_tuple (by decide +kernel) (sim_var 0)) (sim_vone (sim_callB (cd_all rfl) rfl B.b_all (by decide +kernel) (sim_cons (sim_lc (own := [("one", 2)]) rfl sc_is_tuple_of.nd gr (sim_it (sim_var 0)) (blkOk_by (N := N_is_tuple_of) (sc := defScope st_is_tuple_of) (by decide +kernel)) (by decide) (fun s H C cl fp => (sim_bname 2 sc_is_tuple_of.nd)) (fun s H C cl fp => sim_tsnil) (fun s H C cl fp => (sim_callV 1 (hr.mono (by decide)) (sim_var 2) LamX.takes0))) sim_nil))))))
abbrev st_is_position : Stmt := top 7
def N_is_position : List Str := ["thing"]
theorem sc_is_position : FnScope N_is_position ["thing"] (defScope st_is_position) := ⟨rfl, rfl, rfl, by decide +kernel, rfl, by decide +kernel, by decide +kernel⟩
def w_is_position : WS := (wRet (wAnd (wCall 1 Φ_is_number (wCons (wVar 0) wNil)) (wChain opLe opLe (wNeg (wC (.int 1))) (wVar 0) (wC (.int 1)))))
def V_is_position : Prop := ∀ (ys : List Val) (R : Val → Prop) (Ex : Xn → Prop), ys.length = 1 → ys.all argOk = true → Φ_is_position ys R Ex → w_is_position (endW R Ex) (start0 N_is_position ys)
set_option maxHeartbeats 4000000 in
theorem s_is_position (B : Bs mg) (S : Src K mg "is_position" "is_position" st_is_position ["thing"]) (d_is_number : Dfn P w K mg base TT kc "is_number" 1 1 Φ_is_number) (v : V_is_position) : Dfn P w K mg base TT kc "is_position" 2 1 Φ_is_position := by
  refine dfn_of (k := 1) S sc_is_position (fun f cdv A outer s H E Z ow hm hc hr hT gr => ?_) v
  have tk := takes_of (X := cxOf (L2.CX P w) P w K mg base N_is_position "is_position" (defScope st_is_position) f cdv A outer s H E) rfl rfl rfl rfl
  have po : PassesOwn (model P w) (cxOf (L2.CX P w) P w K mg base N_is_position "is_position" (defScope st_is_position) f cdv A outer s H E).A (cxOf (L2.CX P w) P w K mg base N_is_position "is_position" (defScope st_is_position) f cdv A outer s H E).env (cxOf (L2.CX P w) P w K mg base N_is_position "is_position" (defScope st_is_position) f cdv A outer s H E).xe := passes_of rfl
  have hu := room_hu hr
  skip
  exact (sim_bone (sim_ret (sim_vand (sim_callD d_is_number hT hr (by decide) tk rfl (sim_cons (sim_var 0) sim_nil)) (sim_vone (sim_chain or_le or_le (sim_neg sim_int) (sim_var 0) sim_int)))))
abbrev st_are_ways : Stmt := top 9
def N_are_ways : List Str := ["thing"]
theorem sc_are_ways : FnScope N_are_ways ["thing"] (defScope st_are_ways) := ⟨rfl, rfl, rfl, by decide +kernel, rfl, by decide +kernel, by decide +kernel⟩
def w_are_ways : WS := (wRet (wCallL Φ_is_tuple_of (fun d R => (wAnd (wCall 1 Φ_is_position (wCons (wVar 0) wNil)) (wOp opNe (wVar 0) (wC (.int 0)))) (start0 ["way"] [.d d]) (fun y => match y.kp with | some x => R x | none => False) fun _ => False) (wVar 0)))
def V_are_ways : Prop := ∀ (ys : List Val) (R : Val → Prop) (Ex : Xn → Prop), ys.length = 1 → ys.all argOk = true → Φ_are_ways ys R Ex → w_are_ways (endW R Ex) (start0 N_are_ways ys)
set_option maxHeartbeats 4000000 in
theorem s_are_ways (B : Bs mg) (S : Src K mg "are_ways" "are_ways" st_are_ways ["thing"]) (d_is_tuple_of : Dfn P w K mg base TT kc "is_tuple_of" 13 2 Φ_is_tuple_of) (d_is_position : Dfn P w K mg base TT kc "is_position" 2 1 Φ_is_position) {c PT : Addr} (TB : LamX.TabB base mg c PT) (hcd : ∀ f, mg "are_ways" = some (.ref f) → CodeOf K f (.ref c)) (hmT : (PT, (("are_ways" : Str) ++ ".<locals>." ++ "<lambda>" : Str)) ∈ TT) (hmu : ∀ p ∈ TT, p.1 = PT → p.2 = (("are_ways" : Str) ++ ".<locals>." ++ "<lambda>" : Str)) (v : V_are_ways) : Dfn P w K mg base TT kc "are_ways" 14 1 Φ_are_ways := by
  refine dfn_of (k := 13) S sc_are_ways (fun f cdv A outer s H E Z ow hm hc hr hT gr => ?_) v
  have tk := takes_of (X := cxOf (L2.CX P w) P w K mg base N_are_ways "are_ways" (defScope st_are_ways) f cdv A outer s H E) rfl rfl rfl rfl
  have po : PassesOwn (model P w) (cxOf (L2.CX P w) P w K mg base N_are_ways "are_ways" (defScope st_are_ways) f cdv A outer s H E).A (cxOf (L2.CX P w) P w K mg base N_are_ways "are_ways" (defScope st_are_ways) f cdv A outer s H E).env (cxOf (L2.CX P w) P w K mg base N_are_ways "are_ways" (defScope st_are_ways) f cdv A outer s H E).xe := passes_of rfl
  have hu := room_hu hr
  have hcode : cdv = .ref c := hc.one (hcd f hm);
  exact (sim_bone (sim_ret (sim_callLD (N := ["way"]) (jb := 2) d_is_tuple_of hT hr (by decide) tk rfl (sim_var 0) TB hcode hmT hmu (by decide) (NdefX.nscope_by (by decide +kernel)) rfl (fun _ => rfl) (fun _ _ _ _ _ => rfl) (fun Z' f' c' A outer s H E ow hT hr gr => (sim_vand (sim_callD d_is_position hT hr (by decide) (takes_of rfl rfl rfl rfl) rfl (sim_cons (sim_var 0) sim_nil)) (sim_vone (sim_cmp (or_ne (room_hu hr)) (sim_var 0) sim_int)))))))
abbrev st_led : Stmt := top 10
def N_led : List Str := ["position", "ways", "way"]
theorem sc_led : FnScope N_led ["position", "ways"] (defScope st_led) := ⟨rfl, rfl, rfl, by decide +kernel, rfl, by decide +kernel, by decide +kernel⟩
def w_led_1 : WS := (wSeq (wFor (wIt (wVar 1)) (bName 2) (wSetD 0 (wCB bMax2 (wCons (wNeg (wC (.int 1))) (wCons (wCB bMin2 (wCons (wC (.int 1)) (wCons (wOp opAdd (wVar 0) (wVar 2)) wNil))) wNil))))) (wRet (wVar 0)))
def w_led : WS := (wSeq (wIfS (wTor (wTnot (wTv (wCall 1 Φ_is_position (wCons (wVar 0) wNil)))) (wTnot (wTv (wCall 1 Φ_are_ways (wCons (wVar 1) wNil))))) (wRaise0 "Nothing") wSkip) w_led_1)
def V_led : Prop := ∀ (ys : List Val) (R : Val → Prop) (Ex : Xn → Prop), ys.length = 2 → ys.all argOk = true → Φ_led ys R Ex → w_led (endW R Ex) (start0 N_led ys)
set_option maxHeartbeats 4000000 in
theorem s_led (B : Bs mg) (S : Src K mg "led" "led" st_led ["position", "ways"]) (d_is_position : Dfn P w K mg base TT kc "is_position" 2 1 Φ_is_position) (d_are_ways : Dfn P w K mg base TT kc "are_ways" 14 1 Φ_are_ways) (x_Nothing : XCls K mg "Nothing") (v : V_led) : Dfn P w K mg base TT kc "led" 15 2 Φ_led := by
  refine dfn_of (k := 14) S sc_led (fun f cdv A outer s H E Z ow hm hc hr hT gr => ?_) v
  have tk := takes_of (X := cxOf (L2.CX P w) P w K mg base N_led "led" (defScope st_led) f cdv A outer s H E) rfl rfl rfl rfl
  have po : PassesOwn (model P w) (cxOf (L2.CX P w) P w K mg base N_led "led" (defScope st_led) f cdv A outer s H E).A (cxOf (L2.CX P w) P w K mg base N_led "led" (defScope st_led) f cdv A outer s H E).env (cxOf (L2.CX P w) P w K mg base N_led "led" (defScope st_led) f cdv A outer s H E).xe := passes_of rfl
  have hu := room_hu hr
  skip
  exact (sim_bcons (sim_if (SimW.t (sim_or (sim_tnot (sim_tv (sim_callD d_is_position hT hr (by decide) tk rfl (sim_cons (sim_var 0) sim_nil)))) (sim_or1 (sim_tnot (sim_tv (sim_callD d_are_ways hT hr (by decide) tk rfl (sim_cons (sim_var 1) sim_nil))))))) (sim_bone (sim_raise0 rfl tk x_Nothing rfl)) sim_bnil) (sim_bcons (sim_for po rfl (sim_it (sim_var 1)) (sim_bname 2 sc_led.nd) (sim_bone (sim_setD 0 (sim_callB (cd_max2 rfl) rfl B.b_max (by decide +kernel) (sim_cons (sim_neg sim_int) (sim_cons (sim_callB (cd_min2 rfl) rfl B.b_min (by decide +kernel) (sim_cons sim_int (sim_cons (sim_op or_add (sim_var 0) (sim_var 2)) sim_nil))) sim_nil))) sc_led.nd))) (sim_bone (sim_ret (sim_var 0)))))
abbrev st_stretch : Stmt := top 11
def N_stretch : List Str := ["ways", "end", "begin"]
theorem sc_stretch : FnScope N_stretch ["ways"] (defScope st_stretch) := ⟨rfl, rfl, rfl, by decide +kernel, rfl, by decide +kernel, by decide +kernel⟩
def w_stretch_1 : WS := (wSeq (wFor (wRng2 (wCons (wC (.int 2)) (wCons (wOp opAdd (wCB bLen (wCons (wVar 0) wNil)) (wC (.int 1))) wNil))) (bName 1) (wFor (wRng1 (wCons (wOp opSub (wVar 1) (wC (.int 1))) wNil)) (bName 2) (wIfS (wTv (wOp opEq (wCB bAbs (wCons (wCB bSum (wCons (wSl (wVar 0) (wSo (wVar 2)) (wSo (wVar 1))) wNil)) wNil)) (wC (.int 2)))) (wRet (wTup (wCons (wVar 2) (wCons (wVar 1) wNil)))) wSkip))) (wRet (wC .none)))
def w_stretch : WS := (wSeq (wIfS (wTnot (wTv (wCall 1 Φ_are_ways (wCons (wVar 0) wNil)))) (wRaise0 "Nothing") wSkip) w_stretch_1)
def V_stretch : Prop := ∀ (ys : List Val) (R : Val → Prop) (Ex : Xn → Prop), ys.length = 1 → ys.all argOk = true → Φ_stretch ys R Ex → w_stretch (endW R Ex) (start0 N_stretch ys)
set_option maxHeartbeats 4000000 in
theorem s_stretch (B : Bs mg) (S : Src K mg "stretch" "stretch" st_stretch ["ways"]) (d_are_ways : Dfn P w K mg base TT kc "are_ways" 14 1 Φ_are_ways) (x_Nothing : XCls K mg "Nothing") (v : V_stretch) : Dfn P w K mg base TT kc "stretch" 15 1 Φ_stretch := by
  refine dfn_of (k := 14) S sc_stretch (fun f cdv A outer s H E Z ow hm hc hr hT gr => ?_) v
  have tk := takes_of (X := cxOf (L2.CX P w) P w K mg base N_stretch "stretch" (defScope st_stretch) f cdv A outer s H E) rfl rfl rfl rfl
  have po : PassesOwn (model P w) (cxOf (L2.CX P w) P w K mg base N_stretch "stretch" (defScope st_stretch) f cdv A outer s H E).A (cxOf (L2.CX P w) P w K mg base N_stretch "stretch" (defScope st_stretch) f cdv A outer s H E).env (cxOf (L2.CX P w) P w K mg base N_stretch "stretch" (defScope st_stretch) f cdv A outer s H E).xe := passes_of rfl
  have hu := room_hu hr
  skip
  exact (sim_bcons (sim_if (sim_tnot (sim_tv (sim_callD d_are_ways hT hr (by decide) tk rfl (sim_cons (sim_var 0) sim_nil)))) (sim_bone (sim_raise0 rfl tk x_Nothing rfl)) sim_bnil) (sim_bcons (sim_for po rfl (sim_rng2 rfl B.b_range (sim_cons sim_int (sim_cons (sim_op or_add (sim_callB cd_len rfl B.b_len (by decide +kernel) (sim_cons (sim_var 0) sim_nil)) sim_int) sim_nil))) (sim_bname 1 sc_stretch.nd) (sim_bone (sim_for po rfl (sim_rng1 rfl B.b_range (sim_cons (sim_op or_sub (sim_var 1) sim_int) sim_nil)) (sim_bname 2 sc_stretch.nd) (sim_bone (sim_if (sim_tcmp (or_eq (room_hu hr)) (sim_callB cd_abs rfl B.b_abs (by decide +kernel) (sim_cons (sim_callB (cd_sum rfl) rfl B.b_sum (by decide +kernel) (sim_cons (sim_sl (sim_var 0) (sim_so (sim_var 2)) (sim_so (sim_var 1))) sim_nil)) sim_nil)) sim_int) (sim_bone (sim_ret (sim_tup (sim_cons (sim_var 2) (sim_cons (sim_var 1) sim_nil))))) sim_bnil))))) (sim_bone (sim_ret sim_non))))
abbrev st_leads_all : Stmt := top 12
def N_leads_all : List Str := ["ways"]
theorem sc_leads_all : FnScope N_leads_all ["ways"] (defScope st_leads_all) := ⟨rfl, rfl, rfl, by decide +kernel, rfl, by decide +kernel, by decide +kernel⟩
def w_leads_all : WS := (wRet (wIsN true (wCall 1 Φ_stretch (wCons (wVar 0) wNil))))
def V_leads_all : Prop := ∀ (ys : List Val) (R : Val → Prop) (Ex : Xn → Prop), ys.length = 1 → ys.all argOk = true → Φ_leads_all ys R Ex → w_leads_all (endW R Ex) (start0 N_leads_all ys)
set_option maxHeartbeats 4000000 in
theorem s_leads_all (B : Bs mg) (S : Src K mg "leads_all" "leads_all" st_leads_all ["ways"]) (d_stretch : Dfn P w K mg base TT kc "stretch" 15 1 Φ_stretch) (v : V_leads_all) : Dfn P w K mg base TT kc "leads_all" 16 1 Φ_leads_all := by
  refine dfn_of (k := 15) S sc_leads_all (fun f cdv A outer s H E Z ow hm hc hr hT gr => ?_) v
  have tk := takes_of (X := cxOf (L2.CX P w) P w K mg base N_leads_all "leads_all" (defScope st_leads_all) f cdv A outer s H E) rfl rfl rfl rfl
  have po : PassesOwn (model P w) (cxOf (L2.CX P w) P w K mg base N_leads_all "leads_all" (defScope st_leads_all) f cdv A outer s H E).A (cxOf (L2.CX P w) P w K mg base N_leads_all "leads_all" (defScope st_leads_all) f cdv A outer s H E).env (cxOf (L2.CX P w) P w K mg base N_leads_all "leads_all" (defScope st_leads_all) f cdv A outer s H E).xe := passes_of rfl
  have hu := room_hu hr
  skip
  exact (sim_bone (sim_ret (sim_notN (sim_callD d_stretch hT hr (by decide) tk rfl (sim_cons (sim_var 0) sim_nil)))))
abbrev st__law_take : Stmt := top 15
def N__law_take : List Str := ["bag", "many", "cell", "stirred", "value", "begin", "second"]
theorem sc__law_take : FnScope N__law_take ["bag", "many"] (defScope st__law_take) := ⟨rfl, rfl, rfl, by decide +kernel, rfl, by decide +kernel, by decide +kernel⟩
def w__law_take_1 : WS := (wSeq (wSetD 3 (wOp opAdd (wOp opAdd (wOp opMul (wBag 0 1) (wC (.int 48271))) (wOp opMod (wCB bInt (wCons (wVar 2) wNil)) (wC (.int 2147483647)))) (wOp opMul (wC (.int 7919)) (wBag 0 2)))) (wBagSet 0 1 (wOp opMod (wCB bInt (wCons (wVar 3) wNil)) (wC (.int 2147483647)))))
def w__law_take_2 : WS := (wSeq (wIfS (wTv (wOp opGe (wVar 2) (wOp opPow (wC (.int 10)) (wC (.int 18))))) (wBagSet 0 0 (wVar 2)) wSkip) w__law_take_1)
def w__law_take_3 : WS := (wSeq (wBagAdd 0 1) w__law_take_2)
def w__law_take_4 : WS := (wSeq (wBagSet 0 0 (wOp opFdiv (wCB bInt (wCons (wBag 0 0) wNil)) (wVar 1))) (wRet (wVar 4)))
def w__law_take_5 : WS := (wSeq (wSetD 6 (wOp opMod (wCB bInt (wCons (wOp opMul (wOp opMod (wCB bInt (wCons (wOp opMul (wVar 5) (wVar 5)) wNil)) (wC (.int 998244353))) (wC (.int 30011))) wNil)) (wC (.int 998244353)))) (wRet (wOp opMod (wCB bInt (wCons (wOp opFdiv (wVar 6) (wC (.int 7))) wNil)) (wVar 1))))
def w__law_take_6 : WS := (wSeq (wSetD 5 (wOp opMod (wCB bInt (wCons (wOp opMul (wOp opAdd (wBag 0 1) (wC (.int 1))) (wC (.int 39373))) wNil)) (wC (.int 1000000007)))) w__law_take_5)
def w__law_take_7 : WS := (wSeq (wIfS (wTv (wOp opGt (wBag 0 0) (wC (.int 0)))) (wSeq (wSetD 4 (wOp opMod (wCB bInt (wCons (wBag 0 0) wNil)) (wVar 1))) w__law_take_4) wSkip) w__law_take_6)
def w__law_take : WS := (wSeq (wIfS (wTv (wOp opEq (wBag 0 0) (wC (.int 0)))) (wSeq (wSetD 2 (wBagCell 0)) w__law_take_3) wSkip) w__law_take_7)
def V__law_take : Prop := ∀ (ys : List Val) (R : Val → Prop) (Ex : Xn → Prop), ys.length = 2 → ys.all argOk = true → Φ__law_take ys R Ex → w__law_take (endW R Ex) (start0 N__law_take ys)
set_option maxHeartbeats 4000000 in
theorem s__law_take (B : Bs mg) (S : Src K mg "_law_take" "_law_take" st__law_take ["bag", "many"]) (v : V__law_take) : Dfn P w K mg base TT kc "_law_take" 1 2 Φ__law_take := by
  refine dfn_of (k := 0) S sc__law_take (fun f cdv A outer s H E Z ow hm hc hr hT gr => ?_) v
  have tk := takes_of (X := cxOf (L2.CX P w) P w K mg base N__law_take "_law_take" (defScope st__law_take) f cdv A outer s H E) rfl rfl rfl rfl
  have po : PassesOwn (model P w) (cxOf (L2.CX P w) P w K mg base N__law_take "_law_take" (defScope st__law_take) f cdv A outer s H E).A (cxOf (L2.CX P w) P w K mg base N__law_take "_law_take" (defScope st__law_take) f cdv A outer s H E).env (cxOf (L2.CX P w) P w K mg base N__law_take "_law_take" (defScope st__law_take) f cdv A outer s H E).xe := passes_of rfl
  have hu := room_hu hr
  skip
  exact (sim_bcons (sim_if (sim_tcmp (or_eq (room_hu hr)) (sim_bag 0 (by decide)) sim_int) (sim_bcons (sim_setD 2 (sim_bagcell 0) sc__law_take.nd) (sim_bcons (sim_bagadd 0) (sim_bcons (sim_if (sim_tcmp or_ge (sim_var 2) (sim_op or_pow sim_int sim_int)) (sim_bone (sim_bagset 0 (by decide) (sim_var 2))) sim_bnil) (sim_bcons (sim_setD 3 (sim_op or_add (sim_op or_add (sim_op or_mul (sim_bag 0 (by decide)) sim_int) (sim_op or_mod (sim_callT cd_int rfl B.b_int (by decide +kernel) (sim_cons (sim_var 2) sim_nil)) sim_int)) (sim_op or_mul sim_int (sim_bag 0 (by decide)))) sc__law_take.nd) (sim_bone (sim_bagset 0 (by decide) (sim_op or_mod (sim_callT cd_int rfl B.b_int (by decide +kernel) (sim_cons (sim_var 3) sim_nil)) sim_int))))))) sim_bnil) (sim_bcons (sim_if (sim_tcmp or_gt (sim_bag 0 (by decide)) sim_int) (sim_bcons (sim_setD 4 (sim_op or_mod (sim_callT cd_int rfl B.b_int (by decide +kernel) (sim_cons (sim_bag 0 (by decide)) sim_nil)) (sim_var 1)) sc__law_take.nd) (sim_bcons (sim_bagset 0 (by decide) (sim_op or_fdiv (sim_callT cd_int rfl B.b_int (by decide +kernel) (sim_cons (sim_bag 0 (by decide)) sim_nil)) (sim_var 1))) (sim_bone (sim_ret (sim_var 4))))) sim_bnil) (sim_bcons (sim_setD 5 (sim_op or_mod (sim_callT cd_int rfl B.b_int (by decide +kernel) (sim_cons (sim_op or_mul (sim_op or_add (sim_bag 0 (by decide)) sim_int) sim_int) sim_nil)) sim_int) sc__law_take.nd) (sim_bcons (sim_setD 6 (sim_op or_mod (sim_callT cd_int rfl B.b_int (by decide +kernel) (sim_cons (sim_op or_mul (sim_op or_mod (sim_callT cd_int rfl B.b_int (by decide +kernel) (sim_cons (sim_op or_mul (sim_var 5) (sim_var 5)) sim_nil)) sim_int) sim_int) sim_nil)) sim_int) sc__law_take.nd) (sim_bone (sim_ret (sim_op or_mod (sim_callT cd_int rfl B.b_int (by decide +kernel) (sim_cons (sim_op or_fdiv (sim_var 6) sim_int) sim_nil)) (sim_var 1))))))))
abbrev st__law_some : Stmt := top 16
def N__law_some : List Str := ["bag", "things"]
theorem sc__law_some : FnScope N__law_some ["bag", "things"] (defScope st__law_some) := ⟨rfl, rfl, rfl, by decide +kernel, rfl, by decide +kernel, by decide +kernel⟩
def w__law_some : WS := (wRet (wOp opIx (wVar 1) (wCall 2 Φ__law_take (wCons (wVar 0) (wCons (wCB bLen (wCons (wVar 1) wNil)) wNil)))))
def V__law_some : Prop := ∀ (ys : List Val) (R : Val → Prop) (Ex : Xn → Prop), ys.length = 2 → ys.all argOk = true → Φ__law_some ys R Ex → w__law_some (endW R Ex) (start0 N__law_some ys)
set_option maxHeartbeats 4000000 in
theorem s__law_some (B : Bs mg) (S : Src K mg "_law_some" "_law_some" st__law_some ["bag", "things"]) (d__law_take : Dfn P w K mg base TT kc "_law_take" 1 2 Φ__law_take) (v : V__law_some) : Dfn P w K mg base TT kc "_law_some" 2 2 Φ__law_some := by
  refine dfn_of (k := 1) S sc__law_some (fun f cdv A outer s H E Z ow hm hc hr hT gr => ?_) v
  have tk := takes_of (X := cxOf (L2.CX P w) P w K mg base N__law_some "_law_some" (defScope st__law_some) f cdv A outer s H E) rfl rfl rfl rfl
  have po : PassesOwn (model P w) (cxOf (L2.CX P w) P w K mg base N__law_some "_law_some" (defScope st__law_some) f cdv A outer s H E).A (cxOf (L2.CX P w) P w K mg base N__law_some "_law_some" (defScope st__law_some) f cdv A outer s H E).env (cxOf (L2.CX P w) P w K mg base N__law_some "_law_some" (defScope st__law_some) f cdv A outer s H E).xe := passes_of rfl
  have hu := room_hu hr
  skip
  exact (sim_bone (sim_ret (sim_ix (sim_var 1) (sim_callD d__law_take hT hr (by decide) tk rfl (sim_cons (sim_var 0) (sim_cons (sim_callB cd_len rfl B.b_len (by decide +kernel) (sim_cons (sim_var 1) sim_nil)) sim_nil))))))
abbrev st__law_alike : Stmt := top 17
def N__law_alike : List Str := ["found", "due"]
theorem sc__law_alike : FnScope N__law_alike ["found", "due"] (defScope st__law_alike) := ⟨rfl, rfl, rfl, by decide +kernel, rfl, by decide +kernel, by decide +kernel⟩
def w__law_alike : WS := (wRet (wAnd (wOp opEq (wCB bRepr (wCons (wVar 0) wNil)) (wCB bRepr (wCons (wVar 1) wNil))) (wOp opEq (wVar 0) (wVar 1))))
def V__law_alike : Prop := ∀ (ys : List Val) (R : Val → Prop) (Ex : Xn → Prop), ys.length = 2 → ys.all argOk = true → Φ__law_alike ys R Ex → w__law_alike (endW R Ex) (start0 N__law_alike ys)
set_option maxHeartbeats 4000000 in
theorem s__law_alike (B : Bs mg) (S : Src K mg "_law_alike" "_law_alike" st__law_alike ["found", "due"]) (v : V__law_alike) : Gfn P w K mg base TT kc "_law_alike" 1 2 Φ__law_alike := by
  refine gfn_of (k := 0) S sc__law_alike (fun f cdv A outer s H E Z ow hgd hr hT gr => ?_) v
  have tk := takes_of (X := cxOf (L2.CX P w) P w K mg base N__law_alike "_law_alike" (defScope st__law_alike) f cdv A outer s H E) rfl rfl rfl rfl
  have po : PassesOwn (model P w) (cxOf (L2.CX P w) P w K mg base N__law_alike "_law_alike" (defScope st__law_alike) f cdv A outer s H E).A (cxOf (L2.CX P w) P w K mg base N__law_alike "_law_alike" (defScope st__law_alike) f cdv A outer s H E).env (cxOf (L2.CX P w) P w K mg base N__law_alike "_law_alike" (defScope st__law_alike) f cdv A outer s H E).xe := passes_of rfl
  have hu := room_hu hr
  skip
  exact (sim_bone (sim_ret (sim_vand (sim_cmp (or_eq (room_hu hr)) (sim_callB (cd_repr hgd (room_hu hr)) rfl B.b_repr (by decide +kernel) (sim_cons (sim_var 0) sim_nil)) (sim_callB (cd_repr hgd (room_hu hr)) rfl B.b_repr (by decide +kernel) (sim_cons (sim_var 1) sim_nil))) (sim_vone (sim_cmp (or_eq (room_hu hr)) (sim_var 0) (sim_var 1))))))
abbrev st__law_led : Stmt := top 18
def N__law_led : List Str := ["position", "ways", "way"]
theorem sc__law_led : FnScope N__law_led ["position", "ways"] (defScope st__law_led) := ⟨rfl, rfl, rfl, by decide +kernel, rfl, by decide +kernel, by decide +kernel⟩
def w__law_led : WS := (wSeq (wFor (wIt (wVar 1)) (bName 2) (wSetD 0 (wCB bMax2 (wCons (wNeg (wC (.int 1))) (wCons (wCB bMin2 (wCons (wC (.int 1)) (wCons (wOp opAdd (wVar 0) (wVar 2)) wNil))) wNil))))) (wRet (wVar 0)))
def V__law_led : Prop := ∀ (ys : List Val) (R : Val → Prop) (Ex : Xn → Prop), ys.length = 2 → ys.all argOk = true → Φ__law_led ys R Ex → w__law_led (endW R Ex) (start0 N__law_led ys)
set_option maxHeartbeats 4000000 in
theorem s__law_led (B : Bs mg) (S : Src K mg "_law_led" "_law_led" st__law_led ["position", "ways"]) (v : V__law_led) : Dfn P w K mg base TT kc "_law_led" 1 2 Φ__law_led := by
  refine dfn_of (k := 0) S sc__law_led (fun f cdv A outer s H E Z ow hm hc hr hT gr => ?_) v
  have tk := takes_of (X := cxOf (L2.CX P w) P w K mg base N__law_led "_law_led" (defScope st__law_led) f cdv A outer s H E) rfl rfl rfl rfl
  have po : PassesOwn (model P w) (cxOf (L2.CX P w) P w K mg base N__law_led "_law_led" (defScope st__law_led) f cdv A outer s H E).A (cxOf (L2.CX P w) P w K mg base N__law_led "_law_led" (defScope st__law_led) f cdv A outer s H E).env (cxOf (L2.CX P w) P w K mg base N__law_led "_law_led" (defScope st__law_led) f cdv A outer s H E).xe := passes_of rfl
  have hu := room_hu hr
  skip
  exact (sim_bcons (sim_for po rfl (sim_it (sim_var 1)) (sim_bname 2 sc__law_led.nd) (sim_bone (sim_setD 0 (sim_callB (cd_max2 rfl) rfl B.b_max (by decide +kernel) (sim_cons (sim_neg sim_int) (sim_cons (sim_callB (cd_min2 rfl) rfl B.b_min (by decide +kernel) (sim_cons sim_int (sim_cons (sim_op or_add (sim_var 0) (sim_var 2)) sim_nil))) sim_nil))) sc__law_led.nd))) (sim_bone (sim_ret (sim_var 0))))
abbrev st__law_heard : Stmt := top 19
def N__law_heard : List Str := ["act"]
theorem sc__law_heard : FnScope N__law_heard ["act"] (defScope st__law_heard) := ⟨rfl, rfl, rfl, by decide +kernel, rfl, by decide +kernel, by decide +kernel⟩
abbrev st_law : Stmt := top 20
def N_law : List Str := ["script", "bag", "lap", "ways", "k", "ends", "position", "due", "end", "begin", "found", "odd", "heard"]
theorem sc_law : FnScope N_law ["script"] (defScope st_law) := ⟨rfl, rfl, rfl, by decide +kernel, rfl, by decide +kernel, by decide +kernel⟩
def w_law_1 : WS := (wSeq (wMt 12 mAppend (wCons (wHeard "told" "nothing" ["Nothing"] (wCall 2 Φ_led (wCons (wCall 2 Φ__law_some (wCons (wVar 1) (wCons (wLst (wCons (wC (.int 2)) (wCons (wNeg (wC (.int 2))) (wCons (wC .none) (wCons (wC (.bool true)) (wCons (wC (.str "0")) wNil)))))) wNil))) (wCons (wVar 3) wNil)))) wNil)) (wIfS (wTor (wTv (wOp opNe (wVar 12) (wOp opMul (wLst (wCons (wTup (wCons (wC (.str "nothing")) wNil)) wNil)) (wC (.int 4))))) (wTv (wOp (opIsB true) (wCall 1 Φ_are_ways (wCons (wVar 11) wNil)) (wC (.bool false))))) (wRet (wC (.bool false))) wSkip))
def w_law_2 : WS := (wSeq (wMt 12 mAppend (wCons (wHeard "told" "nothing" ["Nothing"] (wCall 1 Φ_leads_all (wCons (wVar 11) wNil))) wNil)) w_law_1)
def w_law_3 : WS := (wSeq (wMt 12 mAppend (wCons (wHeard "told" "nothing" ["Nothing"] (wCall 1 Φ_stretch (wCons (wVar 11) wNil))) wNil)) w_law_2)
def w_law_4 : WS := (wSeq (wSet 12 (wLst (wCons (wHeard "told" "nothing" ["Nothing"] (wCall 2 Φ_led (wCons (wC (.int 0)) (wCons (wVar 11) wNil)))) wNil))) w_law_3)
def w_law_5 : WS := (wSeq (wSetD 11 (wCall 2 Φ__law_some (wCons (wVar 1) (wCons (wLst (wCons (wCB bList (wCons (wVar 3) wNil)) (wCons (wC .none) (wCons (wOp opAdd (wVar 3) (wTup (wCons (wC (.int 0)) wNil))) (wCons (wOp opAdd (wVar 3) (wTup (wCons (wC (.int 2)) wNil))) (wCons (wOp opAdd (wVar 3) (wTup (wCons (wC (.bool true)) wNil))) (wCons (wTup (wCons (wC .none) wNil)) (wCons (wC (.int 0)) (wCons (wTup (wCons (wTup (wCons (wC (.int 1)) wNil)) wNil)) wNil))))))))) wNil)))) w_law_4)
def w_law_6 : WS := (wSeq (wIfS (wTor (wTnot (wTv (wCall 2 Φ__law_alike (wCons (wVar 10) (wCons (wLst (wCons (wVar 5) (wCons (wVar 7) (wCons (wIsN true (wVar 7)) (wCons (wC (.bool true)) wNil))))) wNil))))) (wTv (wOp opNe (wOp opEq (wCB bLen (wCons (wSortedSet (wVar 5)) wNil)) (wC (.int 1))) (wIsN true (wVar 7))))) (wRet (wC (.bool false))) wSkip) w_law_5)
def w_law_7 : WS := (wSeq (wSetD 10 (wLst (wCons (wLc (wIt (wTup (wCons (wNeg (wC (.int 1))) (wCons (wC (.int 0)) (wCons (wC (.int 1)) wNil))))) (bName 6) wYes (wCall 2 Φ_led (wCons (wVar 6) (wCons (wVar 3) wNil))) [6]) (wCons (wCall 1 Φ_stretch (wCons (wVar 3) wNil)) (wCons (wCall 1 Φ_leads_all (wCons (wVar 3) wNil)) (wCons (wCall 1 Φ_are_ways (wCons (wVar 3) wNil)) wNil)))))) w_law_6)
def w_law_8 : WS := (wSeq (wFor (wRng3 (wCons (wCB bLen (wCons (wVar 3) wNil)) (wCons (wC (.int 1)) (wCons (wNeg (wC (.int 1))) wNil)))) (bName 8) (wFor (wRng3 (wCons (wOp opSub (wVar 8) (wC (.int 2))) (wCons (wNeg (wC (.int 1))) (wCons (wNeg (wC (.int 1))) wNil)))) (bName 9) (wSetD 7 (wIf (wTv (wOp opEq (wCB bAbs (wCons (wCB bSum (wCons (wSl (wVar 3) (wSo (wVar 9)) (wSo (wVar 8))) wNil)) wNil)) (wC (.int 2)))) (wTup (wCons (wVar 9) (wCons (wVar 8) wNil))) (wVar 7))))) w_law_7)
def w_law_9 : WS := (wSeq (wSetD 7 (wC .none)) w_law_8)
def w_law_10 : WS := (wSeq (wSetD 5 (wLc (wIt (wTup (wCons (wNeg (wC (.int 1))) (wCons (wC (.int 0)) (wCons (wC (.int 1)) wNil))))) (bName 6) wYes (wCall 2 Φ__law_led (wCons (wVar 6) (wCons (wVar 3) wNil))) [6])) w_law_9)
def w_law : WS := (wSeq (wFor (wRng1 (wCons (wC (.int 10)) wNil)) (bName 2) (wSeq (wSetD 3 (wCB bTuple (wCons (wLc (wRng1 (wCons (wCall 2 Φ__law_take (wCons (wVar 1) (wCons (wC (.int 9)) wNil))) wNil)) (bName 4) wYes (wCall 2 Φ__law_some (wCons (wVar 1) (wCons (wLst (wCons (wNeg (wC (.int 1))) (wCons (wC (.int 1)) wNil))) wNil))) [4]) wNil))) w_law_10)) (wRet (wC (.bool true))))
set_option maxHeartbeats 4000000 in
theorem s_law (B : Bs mg) (d__law_take : Dfn P w K mg base TT kc "_law_take" 1 2 Φ__law_take) (d__law_some : Dfn P w K mg base TT kc "_law_some" 2 2 Φ__law_some) (d__law_led : Dfn P w K mg base TT kc "_law_led" 1 2 Φ__law_led) (d_are_ways : Dfn P w K mg base TT kc "are_ways" 14 1 Φ_are_ways) (d_leads_all : Dfn P w K mg base TT kc "leads_all" 16 1 Φ_leads_all) (d_stretch : Dfn P w K mg base TT kc "stretch" 15 1 Φ_stretch) (d_led : Dfn P w K mg base TT kc "led" 15 2 Φ_led) (d__law_alike : Gfn P w K mg base TT kc "_law_alike" 1 2 Φ__law_alike) {c PT : Addr} (TB : LamX.TabB base mg c PT) (hcd : ∀ f, mg "law" = some (.ref f) → CodeOf K f (.ref c)) (hmT : (PT, (("law" : Str) ++ ".<locals>." ++ "<lambda>" : Str)) ∈ TT) (hmu : ∀ p ∈ TT, p.1 = PT → p.2 = (("law" : Str) ++ ".<locals>." ++ "<lambda>" : Str)) {g__law_heard C_Nothing : Addr} {fd__law_heard : FuncData} (F__law_heard : Fun K "_law_heard" "_law_heard" st__law_heard g__law_heard fd__law_heard) (m__law_heard : mg "_law_heard" = some (.ref g__law_heard)) (b__law_heard : L2.Binds K fd__law_heard ["act"] []) (c_Nothing : mg "Nothing" = some (.ref C_Nothing)) (caught__law_heard : ∀ e ∈ (["Nothing"] : List Str), ∀ C, mg e = some (.ref C) → PySem.W.exmOne K (.ref C) (.ref C_Nothing) = some true) {f : Addr} {cdv : Value} {A : Around} {outer : List Env} {s : Shared} {H : Hp} {E : XK} {Z : Ext} {ow : List Addr} {Hb : Hp} (hm : mg "law" = some (.ref f)) (hc : CodeOf K f cdv) (hgd : (cxOf (L2.CX P w) P w K mg base N_law "law" (defScope st_law) f cdv A outer s H E).A.guards = some []) (hr : Room 18 (cxOf (L2.CX P w) P w K mg base N_law "law" (defScope st_law) f cdv A outer s H E).A) (hT : Z.tabs = TT) (gr : Gr Z ow Hb) :
    SimSs (cxOf (L2.CX P w) P w K mg base N_law "law" (defScope st_law) f cdv A outer s H E) (fun cls d _ H' => E cls d H') Z (Clb P w K mg base kc Z) ow Hb (defBody st_law).tail w_law := by
  have tk := takes_of (X := cxOf (L2.CX P w) P w K mg base N_law "law" (defScope st_law) f cdv A outer s H E) rfl rfl rfl rfl
  have po : PassesOwn (model P w) (cxOf (L2.CX P w) P w K mg base N_law "law" (defScope st_law) f cdv A outer s H E).A (cxOf (L2.CX P w) P w K mg base N_law "law" (defScope st_law) f cdv A outer s H E).env (cxOf (L2.CX P w) P w K mg base N_law "law" (defScope st_law) f cdv A outer s H E).xe := passes_of rfl
  have hu := room_hu hr
  have hcode : cdv = .ref c := hc.one (hcd f hm)
  exact (sim_bcons (sim_for po rfl (sim_rng1 rfl B.b_range (sim_cons sim_int sim_nil)) (sim_bname 2 sc_law.nd) (sim_bcons (sim_setD 3 (sim_callT cd_tuple rfl B.b_tuple (by decide +kernel) (sim_cons (sim_lc (own := [("k", 4)]) rfl sc_law.nd gr (sim_rng1 rfl B.b_range (sim_cons (sim_callD d__law_take hT hr (by decide) tk rfl (sim_cons (sim_var 1) (sim_cons sim_int sim_nil))) sim_nil)) (blkOk_by (N := N_law) (sc := defScope st_law) (by decide +kernel)) (by decide) (fun s H C cl fp => (sim_bname 4 sc_law.nd)) (fun s H C cl fp => sim_tsnil) (fun s H C cl fp => (sim_callD d__law_some hT hr (by decide) LamX.takes0 rfl (sim_cons (sim_var 1) (sim_cons (sim_lst (sim_cons (sim_neg sim_int) (sim_cons sim_int sim_nil))) sim_nil))))) sim_nil)) sc_law.nd) (sim_bcons (sim_setLcD 5 (own := [("position", 6)]) rfl sc_law.nd gr (sim_it (sim_tup (sim_cons (sim_neg sim_int) (sim_cons sim_int (sim_cons sim_int sim_nil))))) (blkOk_by (N := N_law) (sc := defScope st_law) (by decide +kernel)) (by decide) (fun s H C cl fp => (sim_bname 6 sc_law.nd)) (fun s H C cl fp => sim_tsnil) (fun s H C cl fp => (sim_callD d__law_led hT hr (by decide) LamX.takes0 rfl (sim_cons (sim_var 6) (sim_cons (sim_var 3) sim_nil))))) (sim_bcons (sim_setD 7 sim_non sc_law.nd) (sim_bcons (sim_for po rfl (sim_rng3 rfl B.b_range (sim_cons (sim_callB cd_len rfl B.b_len (by decide +kernel) (sim_cons (sim_var 3) sim_nil)) (sim_cons sim_int (sim_cons (sim_neg sim_int) sim_nil)))) (sim_bname 8 sc_law.nd) (sim_bone (sim_for po rfl (sim_rng3 rfl B.b_range (sim_cons (sim_op or_sub (sim_var 8) sim_int) (sim_cons (sim_neg sim_int) (sim_cons (sim_neg sim_int) sim_nil)))) (sim_bname 9 sc_law.nd) (sim_bone (sim_setD 7 (sim_ifx (sim_tcmp (or_eq (room_hu hr)) (sim_callB cd_abs rfl B.b_abs (by decide +kernel) (sim_cons (sim_callB (cd_sum rfl) rfl B.b_sum (by decide +kernel) (sim_cons (sim_sl (sim_var 3) (sim_so (sim_var 9)) (sim_so (sim_var 8))) sim_nil)) sim_nil)) sim_int) (sim_tup (sim_cons (sim_var 9) (sim_cons (sim_var 8) sim_nil))) (sim_var 7)) sc_law.nd))))) (sim_bcons (sim_setD 10 (sim_lst (sim_cons (sim_lc (own := [("position", 6)]) rfl sc_law.nd gr (sim_it (sim_tup (sim_cons (sim_neg sim_int) (sim_cons sim_int (sim_cons sim_int sim_nil))))) (blkOk_by (N := N_law) (sc := defScope st_law) (by decide +kernel)) (by decide) (fun s H C cl fp => (sim_bname 6 sc_law.nd)) (fun s H C cl fp => sim_tsnil) (fun s H C cl fp => (sim_callD d_led hT hr (by decide) LamX.takes0 rfl (sim_cons (sim_var 6) (sim_cons (sim_var 3) sim_nil))))) (sim_cons (sim_callD d_stretch hT hr (by decide) tk rfl (sim_cons (sim_var 3) sim_nil)) (sim_cons (sim_callD d_leads_all hT hr (by decide) tk rfl (sim_cons (sim_var 3) sim_nil)) (sim_cons (sim_callD d_are_ways hT hr (by decide) tk rfl (sim_cons (sim_var 3) sim_nil)) sim_nil))))) sc_law.nd) (sim_bcons (sim_if (SimW.t (sim_or (sim_tnot (sim_tv (sim_callGD d__law_alike hT hgd hr (by decide) tk rfl (sim_cons (sim_var 10) (sim_cons (sim_lst (sim_cons (sim_var 5) (sim_cons (sim_var 7) (sim_cons (sim_notN (sim_var 7)) (sim_cons sim_bl sim_nil))))) sim_nil))))) (sim_or1 (sim_tcmp (or_ne (room_hu hr)) (sim_cmp (or_eq (room_hu hr)) (sim_callB cd_len rfl B.b_len (by decide +kernel) (sim_cons (sim_sortedSet rfl (sim_var 5) rfl B.b_sorted rfl B.b_set) sim_nil)) sim_int) (sim_notN (sim_var 7)))))) (sim_bone (sim_ret sim_bl)) sim_bnil) (sim_bcons (sim_setD 11 (sim_callD d__law_some hT hr (by decide) tk rfl (sim_cons (sim_var 1) (sim_cons (sim_lst (sim_cons (sim_callT cd_list rfl B.b_list (by decide +kernel) (sim_cons (sim_var 3) sim_nil)) (sim_cons sim_non (sim_cons (sim_op or_add (sim_var 3) (sim_tup (sim_cons sim_int sim_nil))) (sim_cons (sim_op or_add (sim_var 3) (sim_tup (sim_cons sim_int sim_nil))) (sim_cons (sim_op or_add (sim_var 3) (sim_tup (sim_cons sim_bl sim_nil))) (sim_cons (sim_tup (sim_cons sim_non sim_nil)) (sim_cons sim_int (sim_cons (sim_tup (sim_cons (sim_tup (sim_cons sim_int sim_nil)) sim_nil)) sim_nil))))))))) sim_nil))) sc_law.nd) (sim_bcons (sim_set 12 (sim_lst (sim_cons (sim_heard (k := 15) F__law_heard rfl m__law_heard b__law_heard sc__law_heard rfl (Or.inl rfl) (fun cdg q => heard_gives rfl c_Nothing (by decide) fun _ => rfl) caught__law_heard TB hcode (by rw [hT]; exact hmT) (by rw [hT]; exact hmu) (hr.mono (by decide)) (LamX.lamS_by (by show LamX.lamSB (defScope st_law) _ = true; decide +kernel)) rfl (fun _ _ _ _ _ => rfl) (fun A outer s H E f c' hr => (sim_callD d_led hT hr (by decide) (takes_of rfl rfl rfl rfl) rfl (sim_cons sim_int (sim_cons (sim_var 11) sim_nil))))) sim_nil)) sc_law.nd) (sim_bcons (sim_mt mt_append mo_append 12 PySem.F.slot_list_append PySem.F.type_list_append (sim_cons (sim_heard (k := 15) F__law_heard rfl m__law_heard b__law_heard sc__law_heard rfl (Or.inl rfl) (fun cdg q => heard_gives rfl c_Nothing (by decide) fun _ => rfl) caught__law_heard TB hcode (by rw [hT]; exact hmT) (by rw [hT]; exact hmu) (hr.mono (by decide)) (LamX.lamS_by (by show LamX.lamSB (defScope st_law) _ = true; decide +kernel)) rfl (fun _ _ _ _ _ => rfl) (fun A outer s H E f c' hr => (sim_callD d_stretch hT hr (by decide) (takes_of rfl rfl rfl rfl) rfl (sim_cons (sim_var 11) sim_nil)))) sim_nil)) (sim_bcons (sim_mt mt_append mo_append 12 PySem.F.slot_list_append PySem.F.type_list_append (sim_cons (sim_heard (k := 16) F__law_heard rfl m__law_heard b__law_heard sc__law_heard rfl (Or.inl rfl) (fun cdg q => heard_gives rfl c_Nothing (by decide) fun _ => rfl) caught__law_heard TB hcode (by rw [hT]; exact hmT) (by rw [hT]; exact hmu) (hr.mono (by decide)) (LamX.lamS_by (by show LamX.lamSB (defScope st_law) _ = true; decide +kernel)) rfl (fun _ _ _ _ _ => rfl) (fun A outer s H E f c' hr => (sim_callD d_leads_all hT hr (by decide) (takes_of rfl rfl rfl rfl) rfl (sim_cons (sim_var 11) sim_nil)))) sim_nil)) (sim_bcons (sim_mt mt_append mo_append 12 PySem.F.slot_list_append PySem.F.type_list_append (sim_cons (sim_heard (k := 15) F__law_heard rfl m__law_heard b__law_heard sc__law_heard rfl (Or.inl rfl) (fun cdg q => heard_gives rfl c_Nothing (by decide) fun _ => rfl) caught__law_heard TB hcode (by rw [hT]; exact hmT) (by rw [hT]; exact hmu) (hr.mono (by decide)) (LamX.lamS_by (by show LamX.lamSB (defScope st_law) _ = true; decide +kernel)) rfl (fun _ _ _ _ _ => rfl) (fun A outer s H E f c' hr => (sim_callD d_led hT hr (by decide) (takes_of rfl rfl rfl rfl) rfl (sim_cons (sim_callD d__law_some hT hr (by decide) (takes_of rfl rfl rfl rfl) rfl (sim_cons (sim_var 1) (sim_cons (sim_lst (sim_cons sim_int (sim_cons (sim_neg sim_int) (sim_cons sim_non (sim_cons sim_bl (sim_cons sim_str sim_nil)))))) sim_nil))) (sim_cons (sim_var 3) sim_nil))))) sim_nil)) (sim_bone (sim_if (SimW.t (sim_or (sim_tcmp (or_ne (room_hu hr)) (sim_var 12) (sim_op or_mul (sim_lst (sim_cons (sim_tup (sim_cons sim_str sim_nil)) sim_nil)) sim_int)) (sim_or1 (sim_tcmp or_isnotB (sim_callD d_are_ways hT hr (by decide) tk rfl (sim_cons (sim_var 11) sim_nil)) sim_bl)))) (sim_bone (sim_ret sim_bl)) sim_bnil)))))))))))))) (sim_bone (sim_ret sim_bl)))
end
end Pd

namespace Pd
open PySem PySem.Spec PyProof.Rows L2
theorem v_is_number : V_is_number := by
  intro ys R Ex hl ha h
  obtain ⟨x, rfl, h⟩ := h
  show w_is_number (endW R Ex) [some (.d x)]
  simp only [w_is_number, wSeq, wIfS, wSkip, wRet, wRetN, wRetL, wRaise0, wSetD, wSet, wAug, wAsg, wMt, wFor, wDo, wFrz, wBagSet, wBagAdd, wBagCell, wBag, wVar, wC, wOp, wNeg, wTv, wTnot, wTand, wTor, wAnd, wOr, wNot, wIf, wChain, wIsN, wIsi, wNil, wCons, wStar, wTup, wLst, wCB, wCall, wCallV, wCallL, wFnA, wHeard, wSl, wSo, wNo, wRng1, wRng2, wRng3, wIt, wItL, wItS, wLc, wYes, wSortedSet, bName, bTup, bCons, bNil, op1, op2i, bLen, bAbs, bMax2, bMin2, bInt, bTuple, bList, bAll, bAny, bSum, bRepr, opAdd, opSub, opMul, opMod, opFdiv, opPow, opCmp, opEq, opNe, opInB, opIsB, opIx, opSl, mAppend, mInsert, mExtend, keeps, toArgs, toArg, Val.rd, Val.kp, brw, slv, isNon, noFn, endW, wipeE, List.getElem?_cons_zero, List.getElem?_cons_succ, List.map_cons, List.map_nil, List.cons_append, List.nil_append, List.set_cons_zero, List.set_cons_succ, List.length_cons, List.length_nil, Bool.false_xor, Bool.true_xor]
  unfold isNum at h
  cases e : isIntD x <;> simp_all
theorem v_is_position : V_is_position := by
  intro ys R Ex hl ha h
  obtain ⟨x, rfl, h⟩ := h
  show w_is_position (endW R Ex) [some (.d x)]
  simp only [w_is_position, wSeq, wIfS, wSkip, wRet, wRetN, wRetL, wRaise0, wSetD, wSet, wAug, wAsg, wMt, wFor, wDo, wFrz, wBagSet, wBagAdd, wBagCell, wBag, wVar, wC, wOp, wNeg, wTv, wTnot, wTand, wTor, wAnd, wOr, wNot, wIf, wChain, wIsN, wIsi, wNil, wCons, wStar, wTup, wLst, wCB, wCall, wCallV, wCallL, wFnA, wHeard, wSl, wSo, wNo, wRng1, wRng2, wRng3, wIt, wItL, wItS, wLc, wYes, wSortedSet, bName, bTup, bCons, bNil, op1, op2i, bLen, bAbs, bMax2, bMin2, bInt, bTuple, bList, bAll, bAny, bSum, bRepr, opAdd, opSub, opMul, opMod, opFdiv, opPow, opCmp, opEq, opNe, opInB, opIsB, opIx, opSl, mAppend, mInsert, mExtend, keeps, toArgs, toArg, Val.rd, Val.kp, brw, slv, isNon, noFn, endW, wipeE, List.getElem?_cons_zero, List.getElem?_cons_succ, List.map_cons, List.map_nil, List.cons_append, List.nil_append, List.set_cons_zero, List.set_cons_succ, List.length_cons, List.length_nil, Bool.false_xor, Bool.true_xor, Φ_is_number]
  refine ⟨trivial, x, rfl, ?_⟩
  cases x with
  | int i =>
    simp only [isNum, isIntD, isBoolD, Bool.not_false, Bool.and_true, if_true]
    unfold isPos at h
    by_cases h1 : -1 ≤ i
    · simpa [h1] using h
    · simpa [h1] using h
  | _ => simpa [isNum, isIntD, isBoolD, isPos] using h
theorem v_is_tuple_of : V_is_tuple_of := by
  intro ys R Ex hl ha h
  obtain ⟨x, f, φ, rfl, h⟩ := h
  show w_is_tuple_of (endW R Ex) [some (.d x), some (.fn f φ), none]
  simp only [w_is_tuple_of, wSeq, wIfS, wSkip, wRet, wRetN, wRetL, wRaise0, wSetD, wSet, wAug, wAsg, wMt, wFor, wDo, wFrz, wBagSet, wBagAdd, wBagCell, wBag, wVar, wC, wOp, wNeg, wTv, wTnot, wTand, wTor, wAnd, wOr, wNot, wIf, wChain, wIsN, wIsi, wNil, wCons, wStar, wTup, wLst, wCB, wCall, wCallV, wCallL, wFnA, wHeard, wSl, wSo, wNo, wRng1, wRng2, wRng3, wIt, wItL, wItS, wLc, wYes, wSortedSet, bName, bTup, bCons, bNil, op1, op2i, bLen, bAbs, bMax2, bMin2, bInt, bTuple, bList, bAll, bAny, bSum, bRepr, opAdd, opSub, opMul, opMod, opFdiv, opPow, opCmp, opEq, opNe, opInB, opIsB, opIx, opSl, mAppend, mInsert, mExtend, keeps, toArgs, toArg, Val.rd, Val.kp, brw, slv, isNon, noFn, endW, wipeE, List.getElem?_cons_zero, List.getElem?_cons_succ, List.map_cons, List.map_nil, List.cons_append, List.nil_append, List.set_cons_zero, List.set_cons_succ, List.length_cons, List.length_nil, Bool.false_xor, Bool.true_xor]
  rcases h with ⟨ds, g, rfl, hφ, hR⟩ | ⟨hx, hR⟩
  · simp only [isTupleD, if_true, wSeq, wIfS, wSkip, wRet, wRetN, wRetL, wRaise0, wSetD, wSet, wAug, wAsg, wMt, wFor, wDo, wFrz, wBagSet, wBagAdd, wBagCell, wBag, wVar, wC, wOp, wNeg, wTv, wTnot, wTand, wTor, wAnd, wOr, wNot, wIf, wChain, wIsN, wIsi, wNil, wCons, wStar, wTup, wLst, wCB, wCall, wCallV, wCallL, wFnA, wHeard, wSl, wSo, wNo, wRng1, wRng2, wRng3, wIt, wItL, wItS, wLc, wYes, wSortedSet, bName, bTup, bCons, bNil, op1, op2i, bLen, bAbs, bMax2, bMin2, bInt, bTuple, bList, bAll, bAny, bSum, bRepr, opAdd, opSub, opMul, opMod, opFdiv, opPow, opCmp, opEq, opNe, opInB, opIsB, opIx, opSl, mAppend, mInsert, mExtend, keeps, toArgs, toArg, Val.rd, Val.kp, brw, slv, isNon, noFn, endW, wipeE, List.getElem?_cons_zero, List.getElem?_cons_succ, List.map_cons, List.map_nil, List.cons_append, List.nil_append, List.set_cons_zero, List.set_cons_succ, List.length_cons, List.length_nil, Bool.false_xor, Bool.true_xor]
    refine lcW_map (fun d => .bool (g d)) (fun d m K hK => ?_) ?_
    · simp only [wSeq, wIfS, wSkip, wRet, wRetN, wRetL, wRaise0, wSetD, wSet, wAug, wAsg, wMt, wFor, wDo, wFrz, wBagSet, wBagAdd, wBagCell, wBag, wVar, wC, wOp, wNeg, wTv, wTnot, wTand, wTor, wAnd, wOr, wNot, wIf, wChain, wIsN, wIsi, wNil, wCons, wStar, wTup, wLst, wCB, wCall, wCallV, wCallL, wFnA, wHeard, wSl, wSo, wNo, wRng1, wRng2, wRng3, wIt, wItL, wItS, wLc, wYes, wSortedSet, bName, bTup, bCons, bNil, op1, op2i, bLen, bAbs, bMax2, bMin2, bInt, bTuple, bList, bAll, bAny, bSum, bRepr, opAdd, opSub, opMul, opMod, opFdiv, opPow, opCmp, opEq, opNe, opInB, opIsB, opIx, opSl, mAppend, mInsert, mExtend, keeps, toArgs, toArg, Val.rd, Val.kp, brw, slv, isNon, noFn, endW, wipeE, List.getElem?_cons_zero, List.getElem?_cons_succ, List.map_cons, List.map_nil, List.cons_append, List.nil_append, List.set_cons_zero, List.set_cons_succ, List.length_cons, List.length_nil, Bool.false_xor, Bool.true_xor]
      exact hφ d m _ hK
    · have e : ([] ++ ds.map fun d => PyData.bool (g d)) = (ds.map g).map .bool := by simp
      rw [e]
      have : boolsOf ((ds.map g).map .bool) = some (ds.map g) := by
        generalize ds.map g = l
        induction l with
        | nil => rfl
        | cons a r ih => simp [boolsOf, ih]
      simp only [wSeq, wIfS, wSkip, wRet, wRetN, wRetL, wRaise0, wSetD, wSet, wAug, wAsg, wMt, wFor, wDo, wFrz, wBagSet, wBagAdd, wBagCell, wBag, wVar, wC, wOp, wNeg, wTv, wTnot, wTand, wTor, wAnd, wOr, wNot, wIf, wChain, wIsN, wIsi, wNil, wCons, wStar, wTup, wLst, wCB, wCall, wCallV, wCallL, wFnA, wHeard, wSl, wSo, wNo, wRng1, wRng2, wRng3, wIt, wItL, wItS, wLc, wYes, wSortedSet, bName, bTup, bCons, bNil, op1, op2i, bLen, bAbs, bMax2, bMin2, bInt, bTuple, bList, bAll, bAny, bSum, bRepr, opAdd, opSub, opMul, opMod, opFdiv, opPow, opCmp, opEq, opNe, opInB, opIsB, opIx, opSl, mAppend, mInsert, mExtend, keeps, toArgs, toArg, Val.rd, Val.kp, brw, slv, isNon, noFn, endW, wipeE, List.getElem?_cons_zero, List.getElem?_cons_succ, List.map_cons, List.map_nil, List.cons_append, List.nil_append, List.set_cons_zero, List.set_cons_succ, List.length_cons, List.length_nil, Bool.false_xor, Bool.true_xor, this]
      simpa using hR
  · simpa [hx] using hR
theorem v_are_ways : V_are_ways := by
  intro ys R Ex hl ha h
  obtain ⟨x, rfl, h⟩ := h
  show w_are_ways (endW R Ex) [some (.d x)]
  simp only [w_are_ways, wSeq, wIfS, wSkip, wRet, wRetN, wRetL, wRaise0, wSetD, wSet, wAug, wAsg, wMt, wFor, wDo, wFrz, wBagSet, wBagAdd, wBagCell, wBag, wVar, wC, wOp, wNeg, wTv, wTnot, wTand, wTor, wAnd, wOr, wNot, wIf, wChain, wIsN, wIsi, wNil, wCons, wStar, wTup, wLst, wCB, wCall, wCallV, wCallL, wFnA, wHeard, wSl, wSo, wNo, wRng1, wRng2, wRng3, wIt, wItL, wItS, wLc, wYes, wSortedSet, bName, bTup, bCons, bNil, op1, op2i, bLen, bAbs, bMax2, bMin2, bInt, bTuple, bList, bAll, bAny, bSum, bRepr, opAdd, opSub, opMul, opMod, opFdiv, opPow, opCmp, opEq, opNe, opInB, opIsB, opIx, opSl, mAppend, mInsert, mExtend, keeps, toArgs, toArg, Val.rd, Val.kp, brw, slv, isNon, noFn, endW, wipeE, List.getElem?_cons_zero, List.getElem?_cons_succ, List.map_cons, List.map_nil, List.cons_append, List.nil_append, List.set_cons_zero, List.set_cons_succ, List.length_cons, List.length_nil, Bool.false_xor, Bool.true_xor]
  intro f
  refine ⟨x, f, _, rfl, ?_⟩
  cases x with
  | tuple ds =>
    refine .inl ⟨ds, isWay, rfl, fun d m K hK => ?_, ?_⟩
    · have e0 : start0 [("way" : Str)] [.d d] = [some (.d d)] := rfl
      simp only [e0, Φ_is_position, wSeq, wIfS, wSkip, wRet, wRetN, wRetL, wRaise0, wSetD, wSet, wAug, wAsg, wMt, wFor, wDo, wFrz, wBagSet, wBagAdd, wBagCell, wBag, wVar, wC, wOp, wNeg, wTv, wTnot, wTand, wTor, wAnd, wOr, wNot, wIf, wChain, wIsN, wIsi, wNil, wCons, wStar, wTup, wLst, wCB, wCall, wCallV, wCallL, wFnA, wHeard, wSl, wSo, wNo, wRng1, wRng2, wRng3, wIt, wItL, wItS, wLc, wYes, wSortedSet, bName, bTup, bCons, bNil, op1, op2i, bLen, bAbs, bMax2, bMin2, bInt, bTuple, bList, bAll, bAny, bSum, bRepr, opAdd, opSub, opMul, opMod, opFdiv, opPow, opCmp, opEq, opNe, opInB, opIsB, opIx, opSl, mAppend, mInsert, mExtend, keeps, toArgs, toArg, Val.rd, Val.kp, brw, slv, isNon, noFn, endW, wipeE, List.getElem?_cons_zero, List.getElem?_cons_succ, List.map_cons, List.map_nil, List.cons_append, List.nil_append, List.set_cons_zero, List.set_cons_succ, List.length_cons, List.length_nil, Bool.false_xor, Bool.true_xor]
      refine ⟨trivial, d, rfl, ?_⟩
      unfold isWay at hK
      cases e : isPos d with
      | false => simpa [e] using hK
      | true =>
        simp only [if_true]
        refine ⟨?_, by simpa [e] using hK⟩
        simp [PyData.depth]
    · exact ⟨rfl, h⟩
  | _ => exact .inr ⟨rfl, rfl, h⟩
theorem v_led : V_led := by
  intro ys R Ex hl ha h
  obtain ⟨x, y, rfl, h⟩ := h
  show w_led (endW R Ex) [some (.d x), some (.d y), none]
  simp only [w_led, w_led_1, wSeq, wIfS, wSkip, wRet, wRetN, wRetL, wRaise0, wSetD, wSet, wAug, wAsg, wMt, wFor, wDo, wFrz, wBagSet, wBagAdd, wBagCell, wBag, wVar, wC, wOp, wNeg, wTv, wTnot, wTand, wTor, wAnd, wOr, wNot, wIf, wChain, wIsN, wIsi, wNil, wCons, wStar, wTup, wLst, wCB, wCall, wCallV, wCallL, wFnA, wHeard, wSl, wSo, wNo, wRng1, wRng2, wRng3, wIt, wItL, wItS, wLc, wYes, wSortedSet, bName, bTup, bCons, bNil, op1, op2i, bLen, bAbs, bMax2, bMin2, bInt, bTuple, bList, bAll, bAny, bSum, bRepr, opAdd, opSub, opMul, opMod, opFdiv, opPow, opCmp, opEq, opNe, opInB, opIsB, opIx, opSl, mAppend, mInsert, mExtend, keeps, toArgs, toArg, Val.rd, Val.kp, brw, slv, isNon, noFn, endW, wipeE, List.getElem?_cons_zero, List.getElem?_cons_succ, List.map_cons, List.map_nil, List.cons_append, List.nil_append, List.set_cons_zero, List.set_cons_succ, List.length_cons, List.length_nil, Bool.false_xor, Bool.true_xor, Φ_is_position, Φ_are_ways]
  refine ⟨trivial, x, rfl, ?_⟩
  rcases h with ⟨p, ws, rfl, rfl, h1, h2, hR⟩ | ⟨h1, hE⟩
  · simp only [h1, Bool.not_true, Bool.false_eq_true, if_false]
    refine ⟨trivial, _, rfl, ?_⟩
    simp only [h2, Bool.not_true, Bool.false_eq_true, if_false]
    refine forW_inv (fun ds ρ => ∃ (q : Int) (us : List Int) (o : Option Val), ds = us.map .int ∧ ρ = [some (.d (.int q)), some (.d (.tuple (ws.map .int))), o] ∧ ledI q us = ledI p ws) ?_ ?_ _ _ ⟨p, ws, none, rfl, rfl, rfl⟩
    · rintro d ds ρ K ⟨q, us, o, e, rfl, hq⟩ hK
      cases us with
      | nil => cases e
      | cons u us =>
        cases e
        simp only [wSeq, wIfS, wSkip, wRet, wRetN, wRetL, wRaise0, wSetD, wSet, wAug, wAsg, wMt, wFor, wDo, wFrz, wBagSet, wBagAdd, wBagCell, wBag, wVar, wC, wOp, wNeg, wTv, wTnot, wTand, wTor, wAnd, wOr, wNot, wIf, wChain, wIsN, wIsi, wNil, wCons, wStar, wTup, wLst, wCB, wCall, wCallV, wCallL, wFnA, wHeard, wSl, wSo, wNo, wRng1, wRng2, wRng3, wIt, wItL, wItS, wLc, wYes, wSortedSet, bName, bTup, bCons, bNil, op1, op2i, bLen, bAbs, bMax2, bMin2, bInt, bTuple, bList, bAll, bAny, bSum, bRepr, opAdd, opSub, opMul, opMod, opFdiv, opPow, opCmp, opEq, opNe, opInB, opIsB, opIx, opSl, mAppend, mInsert, mExtend, keeps, toArgs, toArg, Val.rd, Val.kp, brw, slv, isNon, noFn, endW, wipeE, List.getElem?_cons_zero, List.getElem?_cons_succ, List.map_cons, List.map_nil, List.cons_append, List.nil_append, List.set_cons_zero, List.set_cons_succ, List.length_cons, List.length_nil, Bool.false_xor, Bool.true_xor]
        exact hK _ ⟨upper (-1) (lower 1 (q + u)), us, _, rfl, rfl, hq⟩
    · rintro ρ ⟨q, us, o, e, rfl, hq⟩
      cases us with
      | cons u us => cases e
      | nil =>
        simp only [wSeq, wIfS, wSkip, wRet, wRetN, wRetL, wRaise0, wSetD, wSet, wAug, wAsg, wMt, wFor, wDo, wFrz, wBagSet, wBagAdd, wBagCell, wBag, wVar, wC, wOp, wNeg, wTv, wTnot, wTand, wTor, wAnd, wOr, wNot, wIf, wChain, wIsN, wIsi, wNil, wCons, wStar, wTup, wLst, wCB, wCall, wCallV, wCallL, wFnA, wHeard, wSl, wSo, wNo, wRng1, wRng2, wRng3, wIt, wItL, wItS, wLc, wYes, wSortedSet, bName, bTup, bCons, bNil, op1, op2i, bLen, bAbs, bMax2, bMin2, bInt, bTuple, bList, bAll, bAny, bSum, bRepr, opAdd, opSub, opMul, opMod, opFdiv, opPow, opCmp, opEq, opNe, opInB, opIsB, opIx, opSl, mAppend, mInsert, mExtend, keeps, toArgs, toArg, Val.rd, Val.kp, brw, slv, isNon, noFn, endW, wipeE, List.getElem?_cons_zero, List.getElem?_cons_succ, List.map_cons, List.map_nil, List.cons_append, List.nil_append, List.set_cons_zero, List.set_cons_succ, List.length_cons, List.length_nil, Bool.false_xor, Bool.true_xor]
        rw [← hq] at hR
        exact hR
  · cases e : isPos x with
    | false => simpa [noth] using hE
    | true =>
      simp only [Bool.not_true, Bool.false_eq_true, if_false]
      refine ⟨trivial, y, rfl, ?_⟩
      rcases h1 with h1 | h1
      · rw [e] at h1; cases h1
      · simpa [h1, noth] using hE
theorem v_leads_all : V_leads_all := by
  intro ys R Ex hl ha h
  obtain ⟨y, rfl, h⟩ := h
  show w_leads_all (endW R Ex) [some (.d y)]
  simp only [w_leads_all, wSeq, wIfS, wSkip, wRet, wRetN, wRetL, wRaise0, wSetD, wSet, wAug, wAsg, wMt, wFor, wDo, wFrz, wBagSet, wBagAdd, wBagCell, wBag, wVar, wC, wOp, wNeg, wTv, wTnot, wTand, wTor, wAnd, wOr, wNot, wIf, wChain, wIsN, wIsi, wNil, wCons, wStar, wTup, wLst, wCB, wCall, wCallV, wCallL, wFnA, wHeard, wSl, wSo, wNo, wRng1, wRng2, wRng3, wIt, wItL, wItS, wLc, wYes, wSortedSet, bName, bTup, bCons, bNil, op1, op2i, bLen, bAbs, bMax2, bMin2, bInt, bTuple, bList, bAll, bAny, bSum, bRepr, opAdd, opSub, opMul, opMod, opFdiv, opPow, opCmp, opEq, opNe, opInB, opIsB, opIx, opSl, mAppend, mInsert, mExtend, keeps, toArgs, toArg, Val.rd, Val.kp, brw, slv, isNon, noFn, endW, wipeE, List.getElem?_cons_zero, List.getElem?_cons_succ, List.map_cons, List.map_nil, List.cons_append, List.nil_append, List.set_cons_zero, List.set_cons_succ, List.length_cons, List.length_nil, Bool.false_xor, Bool.true_xor, Φ_stretch]
  refine ⟨trivial, y, rfl, ?_⟩
  rcases h with ⟨ws, rfl, h1, h2, hR⟩ | ⟨h1, hE⟩
  · refine .inl ⟨ws, rfl, h1, h2, ?_⟩
    cases e : stretchF ws with
    | none => rw [e] at hR; exact hR
    | some be => rw [e] at hR; exact hR
  · exact .inr ⟨h1, hE⟩
theorem v__law_led : V__law_led := by
  intro ys R Ex hl ha h
  obtain ⟨p, ws, rfl, hR⟩ := h
  show w__law_led (endW R Ex) [some (.d (.int p)), some (.d (.tuple (ws.map .int))), none]
  simp only [w__law_led, wSeq, wIfS, wSkip, wRet, wRetN, wRetL, wRaise0, wSetD, wSet, wAug, wAsg, wMt, wFor, wDo, wFrz, wBagSet, wBagAdd, wBagCell, wBag, wVar, wC, wOp, wNeg, wTv, wTnot, wTand, wTor, wAnd, wOr, wNot, wIf, wChain, wIsN, wIsi, wNil, wCons, wStar, wTup, wLst, wCB, wCall, wCallV, wCallL, wFnA, wHeard, wSl, wSo, wNo, wRng1, wRng2, wRng3, wIt, wItL, wItS, wLc, wYes, wSortedSet, bName, bTup, bCons, bNil, op1, op2i, bLen, bAbs, bMax2, bMin2, bInt, bTuple, bList, bAll, bAny, bSum, bRepr, opAdd, opSub, opMul, opMod, opFdiv, opPow, opCmp, opEq, opNe, opInB, opIsB, opIx, opSl, mAppend, mInsert, mExtend, keeps, toArgs, toArg, Val.rd, Val.kp, brw, slv, isNon, noFn, endW, wipeE, List.getElem?_cons_zero, List.getElem?_cons_succ, List.map_cons, List.map_nil, List.cons_append, List.nil_append, List.set_cons_zero, List.set_cons_succ, List.length_cons, List.length_nil, Bool.false_xor, Bool.true_xor]
  refine forW_inv (fun ds ρ => ∃ (q : Int) (us : List Int) (o : Option Val), ds = us.map .int ∧ ρ = [some (.d (.int q)), some (.d (.tuple (ws.map .int))), o] ∧ ledI q us = ledI p ws) ?_ ?_ _ _ ⟨p, ws, none, rfl, rfl, rfl⟩
  · rintro d ds ρ K ⟨q, us, o, e, rfl, hq⟩ hK
    cases us with
    | nil => cases e
    | cons u us =>
      cases e
      simp only [wSeq, wIfS, wSkip, wRet, wRetN, wRetL, wRaise0, wSetD, wSet, wAug, wAsg, wMt, wFor, wDo, wFrz, wBagSet, wBagAdd, wBagCell, wBag, wVar, wC, wOp, wNeg, wTv, wTnot, wTand, wTor, wAnd, wOr, wNot, wIf, wChain, wIsN, wIsi, wNil, wCons, wStar, wTup, wLst, wCB, wCall, wCallV, wCallL, wFnA, wHeard, wSl, wSo, wNo, wRng1, wRng2, wRng3, wIt, wItL, wItS, wLc, wYes, wSortedSet, bName, bTup, bCons, bNil, op1, op2i, bLen, bAbs, bMax2, bMin2, bInt, bTuple, bList, bAll, bAny, bSum, bRepr, opAdd, opSub, opMul, opMod, opFdiv, opPow, opCmp, opEq, opNe, opInB, opIsB, opIx, opSl, mAppend, mInsert, mExtend, keeps, toArgs, toArg, Val.rd, Val.kp, brw, slv, isNon, noFn, endW, wipeE, List.getElem?_cons_zero, List.getElem?_cons_succ, List.map_cons, List.map_nil, List.cons_append, List.nil_append, List.set_cons_zero, List.set_cons_succ, List.length_cons, List.length_nil, Bool.false_xor, Bool.true_xor]
      exact hK _ ⟨upper (-1) (lower 1 (q + u)), us, _, rfl, rfl, hq⟩
  · rintro ρ ⟨q, us, o, e, rfl, hq⟩
    cases us with
    | cons u us => cases e
    | nil =>
      simp only [wSeq, wIfS, wSkip, wRet, wRetN, wRetL, wRaise0, wSetD, wSet, wAug, wAsg, wMt, wFor, wDo, wFrz, wBagSet, wBagAdd, wBagCell, wBag, wVar, wC, wOp, wNeg, wTv, wTnot, wTand, wTor, wAnd, wOr, wNot, wIf, wChain, wIsN, wIsi, wNil, wCons, wStar, wTup, wLst, wCB, wCall, wCallV, wCallL, wFnA, wHeard, wSl, wSo, wNo, wRng1, wRng2, wRng3, wIt, wItL, wItS, wLc, wYes, wSortedSet, bName, bTup, bCons, bNil, op1, op2i, bLen, bAbs, bMax2, bMin2, bInt, bTuple, bList, bAll, bAny, bSum, bRepr, opAdd, opSub, opMul, opMod, opFdiv, opPow, opCmp, opEq, opNe, opInB, opIsB, opIx, opSl, mAppend, mInsert, mExtend, keeps, toArgs, toArg, Val.rd, Val.kp, brw, slv, isNon, noFn, endW, wipeE, List.getElem?_cons_zero, List.getElem?_cons_succ, List.map_cons, List.map_nil, List.cons_append, List.nil_append, List.set_cons_zero, List.set_cons_succ, List.length_cons, List.length_nil, Bool.false_xor, Bool.true_xor]
      rw [← hq] at hR
      exact hR
theorem v__law_some : V__law_some := by
  intro ys R Ex hl ha h
  obtain ⟨xs, rfl, hne, hlen, hR⟩ := h
  show w__law_some (endW R Ex) [some .bag, some (.d (.list xs))]
  simp only [w__law_some, wSeq, wIfS, wSkip, wRet, wRetN, wRetL, wRaise0, wSetD, wSet, wAug, wAsg, wMt, wFor, wDo, wFrz, wBagSet, wBagAdd, wBagCell, wBag, wVar, wC, wOp, wNeg, wTv, wTnot, wTand, wTor, wAnd, wOr, wNot, wIf, wChain, wIsN, wIsi, wNil, wCons, wStar, wTup, wLst, wCB, wCall, wCallV, wCallL, wFnA, wHeard, wSl, wSo, wNo, wRng1, wRng2, wRng3, wIt, wItL, wItS, wLc, wYes, wSortedSet, bName, bTup, bCons, bNil, op1, op2i, bLen, bAbs, bMax2, bMin2, bInt, bTuple, bList, bAll, bAny, bSum, bRepr, opAdd, opSub, opMul, opMod, opFdiv, opPow, opCmp, opEq, opNe, opInB, opIsB, opIx, opSl, mAppend, mInsert, mExtend, keeps, toArgs, toArg, Val.rd, Val.kp, brw, slv, isNon, noFn, endW, wipeE, List.getElem?_cons_zero, List.getElem?_cons_succ, List.map_cons, List.map_nil, List.cons_append, List.nil_append, List.set_cons_zero, List.set_cons_succ, List.length_cons, List.length_nil, Bool.false_xor, Bool.true_xor, Φ__law_take]
  refine ⟨trivial, _, rfl, ?_, by omega, fun v h0 h1 => ?_⟩
  · have := List.length_pos_iff.mpr hne
    omega
  · have hv : v.toNat < xs.length := by omega
    have e : atI xs v = some xs[v.toNat] := by
      unfold atI ixN
      rw [if_pos h0, if_pos h1]
      simp [hv]
    simp only [e]
    exact hR _ (List.getElem_mem hv)
theorem v__law_alike : V__law_alike := by
  intro ys R Ex hl ha h
  obtain ⟨a, rfl, h1, h2, h3, h4, hR⟩ := h
  show w__law_alike (endW R Ex) [some (.d a), some (.d a)]
  simp only [w__law_alike, wSeq, wIfS, wSkip, wRet, wRetN, wRetL, wRaise0, wSetD, wSet, wAug, wAsg, wMt, wFor, wDo, wFrz, wBagSet, wBagAdd, wBagCell, wBag, wVar, wC, wOp, wNeg, wTv, wTnot, wTand, wTor, wAnd, wOr, wNot, wIf, wChain, wIsN, wIsi, wNil, wCons, wStar, wTup, wLst, wCB, wCall, wCallV, wCallL, wFnA, wHeard, wSl, wSo, wNo, wRng1, wRng2, wRng3, wIt, wItL, wItS, wLc, wYes, wSortedSet, bName, bTup, bCons, bNil, op1, op2i, bLen, bAbs, bMax2, bMin2, bInt, bTuple, bList, bAll, bAny, bSum, bRepr, opAdd, opSub, opMul, opMod, opFdiv, opPow, opCmp, opEq, opNe, opInB, opIsB, opIx, opSl, mAppend, mInsert, mExtend, keeps, toArgs, toArg, Val.rd, Val.kp, brw, slv, isNon, noFn, endW, wipeE, List.getElem?_cons_zero, List.getElem?_cons_succ, List.map_cons, List.map_nil, List.cons_append, List.nil_append, List.set_cons_zero, List.set_cons_succ, List.length_cons, List.length_nil, Bool.false_xor, Bool.true_xor]
  refine ⟨h1, h2, h3, h1, h2, h3, ?_, ?_⟩
  · simp [PyData.depth]
  · simp only [PyData.eqv]
    simp [h4]
    exact ⟨h3, hR⟩
end Pd

namespace Pd
open PySem PySem.Spec PyProof.Rows L2
theorem v__law_take : V__law_take := by
  intro ys R Ex hl ha h
  obtain ⟨m, rfl, h0, h1, hR⟩ := h
  have md : ∀ x : Int, R (.d (.int (x % m))) := fun x => hR _ (Int.emod_nonneg x (by omega)) (Int.emod_lt_of_pos x h0)
  have tail : ∀ a b : Option Val, w__law_take_7 (endW R Ex) [some .bag, some (.d (.int m)), a, b, none, none, none] := by
    intro a b
    refine ⟨rfl, fun z hz => ?_⟩
    refine ite2 (fun _ => ?_) (fun _ => ?_)
    · refine ⟨rfl, fun z hz => ⟨h0, ⟨rfl, rfl, fun z' hz' => ⟨⟨h0, h1⟩, ⟨?_, fun k => nomatch k⟩, md z⟩⟩⟩⟩
      exact Int.ediv_nonneg hz'.1 (by omega)
    · refine ⟨rfl, fun z hz => ⟨.inr ⟨by decide, by decide⟩, by decide, ?_⟩⟩
      have b1 : 0 ≤ (z + 1) * 39373 % 1000000007 := Int.emod_nonneg _ (by decide)
      have b2 : (z + 1) * 39373 % 1000000007 < 1000000007 := Int.emod_lt_of_pos _ (by decide)
      refine ⟨.inr ⟨by omega, by omega⟩, by decide, .inr ⟨by decide, by decide⟩, by decide, ?_⟩
      exact ⟨⟨by decide, by decide⟩, h0, md _⟩
  show w__law_take (endW R Ex) [some .bag, some (.d (.int m)), none, none, none, none, none]
  refine ⟨rfl, fun z hz => ⟨by simp [PyData.depth], ?_⟩⟩
  refine ite2 (fun _ => ?_) (fun _ => tail _ _)
  refine ⟨rfl, fun c hc => ?_⟩
  refine ⟨rfl, by decide, ?_⟩
  refine ⟨⟨by decide, by decide, by decide⟩, ?_⟩
  have tail2 : w__law_take_1 { (endW R Ex) with nx := fun ρ' => w__law_take_7 (endW R Ex) ρ' } [some .bag, some (.d (.int m)), some (.d (.int c)), none, none, none, none] := by
    refine ⟨rfl, fun z1 hz1 => ⟨.inr ⟨by decide, by decide⟩, (by decide : (0 : Int) < 2147483647), rfl, fun z2 hz2 => ⟨.inl ⟨by decide, by decide⟩, ?_⟩⟩⟩
    exact ⟨rfl, (by decide : (0 : Int) < 2147483647), ⟨Int.emod_nonneg _ (by decide), fun _ => Int.lt_trans (Int.emod_lt_of_pos _ (by decide : (0 : Int) < 2147483647)) (by decide)⟩, tail _ _⟩
  refine ite2 (fun _ => ?_) (fun _ => tail2)
  exact ⟨rfl, ⟨hc, fun k => nomatch k⟩, tail2⟩

theorem countD_succ (lo : Int) (n : Nat) : countD lo (n + 1) = .int lo :: countD (lo + 1) n := by
  unfold countD
  rw [List.range_succ_eq_map]
  simp only [List.map_cons, List.map_map]
  congr 1
  · simp
  · apply List.map_congr_left
    intro i _
    simp only [Function.comp]
    congr 1
    omega
theorem cut_int (ws : List Int) (b e : Nat) (hb : b ≤ e) (he : e ≤ ws.length) : cutG (ws.map PyData.int) (some (b : Int)) (some (e : Int)) = (cutI ws b e).map .int := by
  have i1 : HT.sIx (ws.map PyData.int).length 0 (some (b : Int)) = b := by
    simp only [HT.sIx, List.length_map]
    rw [if_neg (by omega)]
    omega
  have i2 : HT.sIx (ws.map PyData.int).length (ws.map PyData.int).length (some (e : Int)) = e := by
    simp only [HT.sIx, List.length_map]
    rw [if_neg (by omega)]
    omega
  unfold cutG cutI
  rw [i1, i2, List.map_take, List.map_drop]
theorem abs_two (z : Int) : PyData.eqv (.int (if z < 0 then -z else z)) (.int 2) = (z.natAbs == 2) := by
  simp only [PyData.eqv]
  split <;> (rw [Bool.eq_iff_iff]; simp; omega)
theorem v_stretch : V_stretch := by
  intro ys R Ex hl ha h
  obtain ⟨y, rfl, h⟩ := h
  show w_stretch (endW R Ex) [some (.d y), none, none]
  refine ⟨rfl, y, rfl, ?_⟩
  rcases h with ⟨ws, rfl, h1, h2, hR⟩ | ⟨h1, hE⟩
  · rw [h1]
    show w_stretch_1 (endW R Ex) [some (.d (.tuple (ws.map .int))), none, none]
    have hsz : ((ws.length : Int) + 1 - 2).toNat = ws.length - 1 := by omega
    have big : (100 : Nat) ≤ sizeLine := by rw [sizeLine_eq]; decide
    refine ⟨⟨by decide, by decide⟩, ?_, ?_, ?_⟩
    · show rgOk (((ws.map PyData.int).length : Int) + 1)
      rw [List.length_map]
      constructor <;> omega
    · show (((ws.map PyData.int).length : Int) + 1 - 2).toNat ≤ sizeLine
      rw [List.length_map, hsz]
      omega
    show forW _ _ _ (countD 2 (((ws.map PyData.int).length : Int) + 1 - 2).toNat) _
    rw [List.length_map, hsz]
    refine forW_inv (fun ds ρ => ∃ (k e : Nat) (o1 o2 : Option Val), 2 ≤ e ∧ (k = 0 ∨ e + k ≤ ws.length + 1) ∧ ds = countD e k ∧ ρ = [some (.d (.tuple (ws.map .int))), o1, o2] ∧ R (.d (spanD (outF ws k e)))) ?_ ?_ _ _ ?_
    · rintro d ds ρ K ⟨k, e, o1, o2, he, hk, hds, rfl, hr⟩ hK
      cases k with
      | zero => cases hds
      | succ k =>
        rw [countD_succ] at hds
        cases hds
        have hin : ∀ o2, inF ws e (e - 1) 0 = none → K [some (.d (.tuple (ws.map .int))), some (.d (.int e)), o2] := fun o2 hn => hK _ ⟨k, e + 1, _, _, by omega, by omega, by simp, rfl, by
          unfold outF at hr
          rw [hn] at hr
          exact hr⟩
        have hout : ∀ r, inF ws e (e - 1) 0 = some r → R (.d (spanD (some r))) := fun r hn => by
          unfold outF at hr
          rw [hn] at hr
          exact hr
        have hj : ((e : Int) - 1).toNat = e - 1 := by omega
        refine ⟨⟨by omega, by omega⟩, by rw [hj]; omega, ?_⟩
        rw [hj]
        refine forW_inv (fun ds ρ => ∃ (j b : Nat) (o2 : Option Val), b + j = e - 1 ∧ ds = countD b j ∧ ρ = [some (.d (.tuple (ws.map .int))), some (.d (.int e)), o2] ∧ inF ws e (e - 1) 0 = inF ws e j b) ?_ ?_ _ _ ⟨e - 1, 0, _, by omega, rfl, rfl, rfl⟩
        · rintro d ds ρ K2 ⟨j, b, o2, hb, hds, rfl, hq⟩ hK2
          cases j with
          | zero => cases hds
          | succ j =>
            rw [countD_succ] at hds
            cases hds
            simp only [wSeq, wIfS, wSkip, wRet, wRetN, wRetL, wRaise0, wSetD, wSet, wAug, wAsg, wMt, wFor, wDo, wFrz, wBagSet, wBagAdd, wBagCell, wBag, wVar, wC, wOp, wNeg, wTv, wTnot, wTand, wTor, wAnd, wOr, wNot, wIf, wChain, wIsN, wIsi, wNil, wCons, wStar, wTup, wLst, wCB, wCall, wCallV, wCallL, wFnA, wHeard, wSl, wSo, wNo, wRng1, wRng2, wRng3, wIt, wItL, wItS, wLc, wYes, wSortedSet, bName, bTup, bCons, bNil, op1, op2i, bLen, bAbs, bMax2, bMin2, bInt, bTuple, bList, bAll, bAny, bSum, bRepr, opAdd, opSub, opMul, opMod, opFdiv, opPow, opCmp, opEq, opNe, opInB, opIsB, opIx, opSl, mAppend, mInsert, mExtend, keeps, toArgs, toArg, Val.rd, Val.kp, brw, slv, isNon, noFn, endW, wipeE, List.getElem?_cons_zero, List.getElem?_cons_succ, List.map_cons, List.map_nil, List.cons_append, List.nil_append, List.set_cons_zero, List.set_cons_succ, List.length_cons, List.length_nil, Bool.false_xor, Bool.true_xor, cut_int ws b e (by omega) (by omega), intsOf_map, abs_two]
            refine ⟨by simp [PyData.depth], ?_⟩
            have el : ((cutI ws b e).sum.natAbs == 2) = leads ws (b, e) := rfl
            rw [el]
            have st : inF ws e (j + 1) b = if leads ws (b, e) = true then some (b, e) else inF ws e j (b + 1) := rfl
            rw [st] at hq
            by_cases hc : leads ws (b, e) = true
            · rw [if_pos hc] at hq ⊢
              exact ⟨by rw [sizeLine_eq]; omega, hout _ hq⟩
            · rw [if_neg hc] at hq ⊢
              exact hK2 _ ⟨j, b + 1, _, by omega, by simp, rfl, hq⟩
        · rintro ρ ⟨j, b, o2, hb, hds, rfl, hq⟩
          cases j with
          | succ j => rw [countD_succ] at hds; cases hds
          | zero => exact hin o2 hq
    · rintro ρ ⟨k, e, o1, o2, he, hk, hds, rfl, hr⟩
      cases k with
      | succ k => rw [countD_succ] at hds; cases hds
      | zero => exact hr
    · exact ⟨ws.length - 1, 2, none, none, by omega, by omega, rfl, rfl, hR⟩
  · rw [h1]
    exact hE
end Pd

namespace Pd
open PySem PySem.Spec PyProof.Rows L2
abbrev O := Option Val
def tupI (ws : List Int) : Val := .d (.tuple (ws.map .int))
def notD : D := .tuple [.str "nothing"]
/-- what the law does behind a lap -/
def Lap (K : Ev → Prop) : Prop := ∀ a0 a2 a3 a4 a5 a6 a7 a8 a9 a10 a11 a12 : O, K [a0, some .bag, a2, a3, a4, a5, a6, a7, a8, a9, a10, a11, a12]
section
variable {E : En} {a0 a2 a4 a5 a6 a7 a8 a9 a10 a11 a12 : O} {ws : List Int} {odd : D}
theorem law1 (hK : Lap E.nx) (ho : waysD odd = false) : w_law_1 E [a0, some .bag, a2, some (tupI ws), a4, a5, a6, a7, a8, a9, a10, some (.d odd), some (.own [notD, notD, notD])] := by
  refine ⟨by rw [sizeLine_eq]; show 5 ≤ _; omega, ?_⟩
  refine ⟨rfl, _, rfl, by simp, by decide, fun x hx => ?_⟩
  refine ⟨rfl, x, .tuple (ws.map .int), rfl, .inr ⟨.inl ?_, by decide, ?_⟩⟩
  · simp only [List.mem_cons, List.not_mem_nil, or_false] at hx
    rcases hx with rfl | rfl | rfl | rfl | rfl <;> rfl
  refine ⟨by rw [sizeLine_eq]; show 3 < _; omega, ?_⟩
  refine ⟨by rw [sizeLine_eq]; show 1 ≤ _; omega, by rw [sizeLine_eq]; show 1 ≤ _; omega, ⟨by decide, by decide, by rw [sizeLine_eq]; show 4 ≤ _; omega⟩, by decide, ?_⟩
  refine ⟨rfl, odd, rfl, ?_⟩
  rw [ho]
  exact hK _ _ _ _ _ _ _ _ _ _ _ _
theorem law2 (hK : Lap E.nx) (ho : waysD odd = false) : w_law_2 E [a0, some .bag, a2, some (tupI ws), a4, a5, a6, a7, a8, a9, a10, some (.d odd), some (.own [notD, notD])] :=
  ⟨rfl, odd, rfl, .inr ⟨ho, by decide, by rw [sizeLine_eq]; show 2 < _; omega, law1 hK ho⟩⟩
theorem law3 (hK : Lap E.nx) (ho : waysD odd = false) : w_law_3 E [a0, some .bag, a2, some (tupI ws), a4, a5, a6, a7, a8, a9, a10, some (.d odd), some (.own [notD])] :=
  ⟨rfl, odd, rfl, .inr ⟨ho, by decide, by rw [sizeLine_eq]; show 1 < _; omega, law2 hK ho⟩⟩
theorem law4 (hK : Lap E.nx) (ho : waysD odd = false) : w_law_4 E [a0, some .bag, a2, some (tupI ws), a4, a5, a6, a7, a8, a9, a10, some (.d odd), a12] :=
  ⟨rfl, .int 0, odd, rfl, .inr ⟨.inr ho, by decide, by rw [sizeLine_eq]; show 1 ≤ _; omega, law3 hK ho⟩⟩
theorem odd_no (ws : List Int) : ∀ x ∈ ([.list (ws.map .int), .none, .tuple (ws.map .int ++ [.int 0]), .tuple (ws.map .int ++ [.int 2]), .tuple (ws.map .int ++ [.bool true]), .tuple [.none], .int 0, .tuple [.tuple [.int 1]]] : List D), waysD x = false := by
  intro x hx
  have e : ∀ d, isWay d = false → waysD (.tuple (ws.map .int ++ [d])) = false := fun d h => by simp [waysD, h]
  simp only [List.mem_cons, List.not_mem_nil, or_false] at hx
  rcases hx with rfl | rfl | rfl | rfl | rfl | rfl | rfl | rfl
  · rfl
  · rfl
  · exact e _ (by decide)
  · exact e _ (by decide)
  · exact e _ (by decide)
  · rfl
  · rfl
  · rfl
theorem law5 (hK : Lap E.nx) (hl : ws.length ≤ 8) : w_law_5 E [a0, some .bag, a2, some (tupI ws), a4, a5, a6, a7, a8, a9, a10, a11, a12] := by
  have s1 : (1 : Nat) ≤ sizeLine := by rw [sizeLine_eq]; omega
  have s2 : (ws.map PyData.int).length + 1 ≤ sizeLine := by rw [List.length_map, sizeLine_eq]; omega
  refine ⟨s1, s2, s1, s2, s1, s2, s1, s1, s1, by rw [sizeLine_eq]; show 8 ≤ _; omega, ?_⟩
  refine ⟨rfl, _, rfl, by simp, by show (8 : Nat) < 1073741824; decide, fun x hx => ?_⟩
  exact law4 hK (odd_no ws x hx)
end

/-! ### the ways of at most eight steps, each looked at -/
def longer (l : List (List Int)) : List (List Int) := l.flatMap fun ws => [(-1) :: ws, 1 :: ws]
def someWays : Nat → List (List Int)
  | 0 => [[]]
  | n + 1 => longer (someWays n)
def allWays : List (List Int) := (List.range 9).flatMap someWays
def stops (ws : List Int) : List Int := [ledI (-1) ws, ledI 0 ws, ledI 1 ws]
def foundD (ws : List Int) : D := .list [.list ((stops ws).map .int), spanD (stretchF ws), .bool (stretchF ws).isSome, .bool true]
def good (ws : List Int) : Bool := (foundD ws).showable && decide ((foundD ws).shown.length ≤ 1000) && decide ((foundD ws).depth ≤ 100) && PyData.eqv (foundD ws) (foundD ws) && waysD (.tuple (ws.map .int)) &&
  ((ledI (-1) ws == ledI 0 ws && ledI 0 ws == ledI 1 ws) == (stretchF ws).isSome)
theorem all_good : allWays.all good = true := by decide +kernel
theorem in_some : ∀ (ws : List Int), (∀ w ∈ ws, w = -1 ∨ w = 1) → ws ∈ someWays ws.length
  | [], _ => by simp [someWays]
  | w :: ws, h => by
    have ih := in_some ws fun x m => h x (List.mem_cons_of_mem _ m)
    show w :: ws ∈ (someWays ws.length).flatMap fun ws => [(-1) :: ws, 1 :: ws]
    refine List.mem_flatMap.mpr ⟨ws, ih, ?_⟩
    rcases h w List.mem_cons_self with rfl | rfl <;> simp
theorem good_of {ws : List Int} (h : ∀ w ∈ ws, w = -1 ∨ w = 1) (hl : ws.length ≤ 8) : good ws = true :=
  List.all_eq_true.mp all_good ws (List.mem_flatMap.mpr ⟨ws.length, List.mem_range.mpr (by omega), in_some ws h⟩)
structure Good (ws : List Int) : Prop where
  show1 : (foundD ws).showable = true
  show2 : (foundD ws).shown.length ≤ 1000
  show3 : (foundD ws).depth ≤ 100
  same : PyData.eqv (foundD ws) (foundD ws) = true
  ways : waysD (.tuple (ws.map .int)) = true
  one : (ledI (-1) ws = ledI 0 ws ∧ ledI 0 ws = ledI 1 ws) ↔ (stretchF ws).isSome = true
theorem Good.of {ws : List Int} (h : ∀ w ∈ ws, w = -1 ∨ w = 1) (hl : ws.length ≤ 8) : Good ws := by
  have g := good_of h hl
  unfold good at g
  simp only [Bool.and_eq_true, decide_eq_true_eq] at g
  obtain ⟨⟨⟨⟨⟨g1, g2⟩, g3⟩, g4⟩, g5⟩, g6⟩ := g
  refine ⟨g1, g2, g3, g4, g5, ?_⟩
  have g6 := eq_of_beq g6
  rw [← g6, Bool.and_eq_true, beq_iff_eq, beq_iff_eq]
/-- so many values as there are unlike ones -/
theorem len_one {a b c : Int} {out : List Int} (hp : out.Pairwise (· < ·)) (hm : ∀ k, k ∈ out ↔ k ∈ [a, b, c]) : (out.length = 1) ↔ (a = b ∧ b = c) := by
  constructor
  · intro h
    match out, h with
    | [x], _ =>
      have h1 := (hm a).mpr (by simp)
      have h2 := (hm b).mpr (by simp)
      have h3 := (hm c).mpr (by simp)
      simp only [List.mem_singleton] at h1 h2 h3
      exact ⟨h1.trans h2.symm, h2.trans h3.symm⟩
  · rintro ⟨rfl, rfl⟩
    match out, hp with
    | [], _ => exact absurd ((hm a).mpr (by simp)) (by simp)
    | [x], _ => rfl
    | x :: y :: r, hp =>
      have h1 : x = a := by simpa using (hm x).mp (by simp)
      have h2 : y = a := by simpa using (hm y).mp (by simp)
      have := (List.pairwise_cons.mp hp).1 y (by simp)
      omega
section
variable {E : En} {a0 a2 a4 a5 a6 a7 a8 a9 a10 a11 a12 : O} {ws : List Int}
theorem isNon_span (o : Option (Nat × Nat)) : (true ^^ isNon (.d (spanD o))) = o.isSome := by
  cases o <;> rfl
theorem law6 (hK : Lap E.nx) (hl : ws.length ≤ 8) (g : Good ws) : w_law_6 E [a0, some .bag, a2, some (tupI ws), a4, some (.d (.list ((stops ws).map .int))), a6, some (.d (spanD (stretchF ws))), a8, a9, some (.d (foundD ws)), a11, a12] := by
  refine ⟨by rw [sizeLine_eq]; show 4 ≤ _; omega, rfl, ?_⟩
  rw [show brw (.d (spanD (stretchF ws))) = .d (spanD (stretchF ws)) from rfl, isNon_span]
  refine ⟨foundD ws, rfl, g.show1, by have := g.show2; rw [sizeLine_eq]; omega, g.show3, g.same, ?_⟩
  refine ⟨by show 3 < 64; decide, fun out hp hm => ?_⟩
  have one : PyData.eqv (.int ((out.map PyData.int).length : Nat)) (.int 1) = (stretchF ws).isSome := by
    rw [List.length_map]
    have h1 := len_one hp hm
    have h2 := h1.trans g.one
    rw [Bool.eq_iff_iff, ← h2]
    simp only [PyData.eqv]
    simp
    omega
  refine ⟨by show min _ _ ≤ 100; simp [PyData.depth], ?_⟩
  rw [one]
  refine ⟨by show min _ _ ≤ 100; simp [PyData.depth], ?_⟩
  rw [show brw (.d (spanD (stretchF ws))) = .d (spanD (stretchF ws)) from rfl, isNon_span]
  have same : (!PyData.eqv (.bool (stretchF ws).isSome) (.bool (stretchF ws).isSome)) = false := by
    cases (stretchF ws).isSome <;> rfl
  rw [same]
  exact law5 hK hl
theorem law7 (hK : Lap E.nx) (hl : ws.length ≤ 8) (g : Good ws) : w_law_7 E [a0, some .bag, a2, some (tupI ws), a4, some (.d (.list ((stops ws).map .int))), a6, some (.d (spanD (stretchF ws))), a8, a9, a10, a11, a12] := by
  refine ⟨by rw [sizeLine_eq]; show 3 ≤ _; omega, ?_⟩
  refine lcW_map (fun d => match d with
    | .int p => .int (ledI p ws)
    | d => d) (fun d m K hK => ?_) ?_
  · simp only [List.mem_cons, List.not_mem_nil, or_false] at m
    rcases m with rfl | rfl | rfl
    · exact ⟨rfl, _, _, rfl, .inl ⟨-1, ws, rfl, rfl, by decide, g.ways, hK⟩⟩
    · exact ⟨rfl, _, _, rfl, .inl ⟨0, ws, rfl, rfl, by decide, g.ways, hK⟩⟩
    · exact ⟨rfl, _, _, rfl, .inl ⟨1, ws, rfl, rfl, by decide, g.ways, hK⟩⟩
  · refine ⟨rfl, _, rfl, .inl ⟨ws, rfl, g.ways, by omega, ?_⟩⟩
    refine ⟨rfl, _, rfl, .inl ⟨ws, rfl, g.ways, by omega, ?_⟩⟩
    refine ⟨rfl, _, rfl, ?_⟩
    rw [show waysD (.tuple (ws.map .int)) = true from g.ways]
    exact ⟨by rw [sizeLine_eq]; show 4 ≤ _; omega, law6 hK hl g⟩
end
end Pd

namespace Pd
open PySem PySem.Spec PyProof.Rows L2
theorem downD_succ (lo : Int) (n : Nat) : downD lo (n + 1) = .int lo :: downD (lo - 1) n := by
  unfold downD
  rw [List.range_succ_eq_map]
  simp only [List.map_cons, List.map_map]
  congr 1
  · simp
  · apply List.map_congr_left
    intro i _
    simp only [Function.comp]
    congr 1
    omega
section
variable {E : En} {a0 a2 a4 a5 a6 a7 a8 a9 a10 a11 a12 : O} {ws : List Int}
theorem law8 (hK : Lap E.nx) (hl : ws.length ≤ 8) (g : Good ws) : w_law_8 E [a0, some .bag, a2, some (tupI ws), a4, some (.d (.list ((stops ws).map .int))), a6, some (.d .none), a8, a9, a10, a11, a12] := by
  have big : (100 : Nat) ≤ sizeLine := by rw [sizeLine_eq]; decide
  have hn : ((ws.length : Int) - 1).toNat = ws.length - 1 := by omega
  refine ⟨?_, ⟨by decide, by decide⟩, ?_, ?_⟩
  · show rgOk ((ws.map PyData.int).length : Int)
    rw [List.length_map]
    constructor <;> omega
  · show (((ws.map PyData.int).length : Int) - 1).toNat ≤ sizeLine
    rw [List.length_map, hn]
    omega
  show forW _ _ _ (downD ((ws.map PyData.int).length : Int) (((ws.map PyData.int).length : Int) - 1).toNat) _
  rw [List.length_map, hn]
  refine forW_inv (fun ds ρ => ∃ (k : Nat) (b8 b9 : O), k ≤ ws.length - 1 ∧ (ds = downD ((k : Int) + 1) k) ∧ ρ = [a0, some .bag, a2, some (tupI ws), a4, some (.d (.list ((stops ws).map .int))), a6, some (.d (spanD (outF ws (ws.length - 1 - k) (k + 2)))), b8, b9, a10, a11, a12]) ?_ ?_ _ _ ?_
  · rintro d ds ρ K ⟨k, b8, b9, hk, hds, rfl⟩ hK2
    cases k with
    | zero => cases hds
    | succ k =>
      rw [downD_succ] at hds
      cases hds
      have e1 : ((k + 1 : Nat) : Int) + 1 - 2 - -1 = ((k + 1 : Nat) : Int) := by omega
      refine ⟨⟨by omega, by omega⟩, ⟨by decide, by decide⟩, by rw [e1]; omega, ?_⟩
      rw [e1]
      have old : ∀ o : Option (Nat × Nat), o = outF ws (ws.length - 1 - (k + 1)) (k + 3) → ∀ r, r = (inF ws (k + 2) (k + 1) 0).or o → r = outF ws (ws.length - 1 - k) (k + 2) := fun o ho r hr => by
        obtain ⟨m, hm⟩ : ∃ m, ws.length - 1 - k = m + 1 := ⟨ws.length - 1 - k - 1, by omega⟩
        have hm' : ws.length - 1 - (k + 1) = m := by omega
        rw [hm]
        rw [hm'] at ho
        show r = match inF ws (k + 2) (k + 2 - 1) 0 with
          | some r => some r
          | none => outF ws m (k + 2 + 1)
        rw [hr, ho, show k + 2 - 1 = k + 1 from rfl]
        cases inF ws (k + 2) (k + 1) 0 <;> rfl
      refine forW_inv (fun ds ρ => ∃ (j : Nat) (b9 : O), j ≤ k + 1 ∧ ds = downD ((j : Int) - 1) j ∧ ρ = [a0, some .bag, a2, some (tupI ws), a4, some (.d (.list ((stops ws).map .int))), a6, some (.d (spanD ((inF ws (k + 2) (k + 1 - j) j).or (outF ws (ws.length - 1 - (k + 1)) (k + 3))))), some (.d (.int ((k + 1 : Nat) + 1))), b9, a10, a11, a12]) ?_ ?_ _ _ ?_
      · rintro d ds ρ K3 ⟨j, b9, hj, hds, rfl⟩ hK3
        cases j with
        | zero => cases hds
        | succ j =>
          rw [downD_succ] at hds
          cases hds
          have e2 : ((j + 1 : Nat) : Int) - 1 = (j : Int) := by omega
          have e3 : (((k + 1 : Nat) : Int) + 1) = ((k + 2 : Nat) : Int) := by omega
          have st : inF ws (k + 2) (k + 1 - j) j = if leads ws (j, k + 2) = true then some (j, k + 2) else inF ws (k + 2) (k + 1 - (j + 1)) (j + 1) := by
            rw [show k + 1 - j = (k + 1 - (j + 1)) + 1 by omega]
            rfl
          simp only [wSeq, wIfS, wSkip, wRet, wRetN, wRetL, wRaise0, wSetD, wSet, wAug, wAsg, wMt, wFor, wDo, wFrz, wBagSet, wBagAdd, wBagCell, wBag, wVar, wC, wOp, wNeg, wTv, wTnot, wTand, wTor, wAnd, wOr, wNot, wIf, wChain, wIsN, wIsi, wNil, wCons, wStar, wTup, wLst, wCB, wCall, wCallV, wCallL, wFnA, wHeard, wSl, wSo, wNo, wRng1, wRng2, wRng3, wIt, wItL, wItS, wLc, wYes, wSortedSet, bName, bTup, bCons, bNil, op1, op2i, bLen, bAbs, bMax2, bMin2, bInt, bTuple, bList, bAll, bAny, bSum, bRepr, opAdd, opSub, opMul, opMod, opFdiv, opPow, opCmp, opEq, opNe, opInB, opIsB, opIx, opSl, mAppend, mInsert, mExtend, keeps, toArgs, toArg, Val.rd, Val.kp, brw, slv, isNon, noFn, endW, wipeE, List.getElem?_cons_zero, List.getElem?_cons_succ, List.map_cons, List.map_nil, List.cons_append, List.nil_append, List.set_cons_zero, List.set_cons_succ, List.length_cons, List.length_nil, Bool.false_xor, Bool.true_xor, tupI, e2, e3, cut_int ws j (k + 2) (by omega) (by omega), intsOf_map, abs_two]
          refine ⟨by simp [PyData.depth], ?_⟩
          rw [show ((cutI ws j (k + 2)).sum.natAbs == 2) = leads ws (j, k + 2) from rfl]
          by_cases hc : leads ws (j, k + 2) = true
          · rw [if_pos hc]
            refine ⟨by rw [sizeLine_eq]; omega, hK3 _ ⟨j, some (.d (.int (j : Nat))), by omega, by rw [e2], ?_⟩⟩
            rw [st, if_pos hc]
            simp [spanD, tupI]
            omega
          · rw [if_neg hc]
            refine hK3 _ ⟨j, some (.d (.int (j : Nat))), by omega, by rw [e2], ?_⟩
            rw [st, if_neg hc]
            simp [tupI]
            omega
      · rintro ρ ⟨j, b9, hj, hds, rfl⟩
        cases j with
        | succ j => rw [downD_succ] at hds; cases hds
        | zero =>
          refine hK2 _ ⟨k, some (.d (.int ((k + 1 : Nat) + 1))), b9, by omega, by rw [show ((k + 1 : Nat) : Int) + 1 - 1 = (k : Int) + 1 by omega], ?_⟩
          rw [← old _ rfl _ rfl]
          rfl
      · refine ⟨k + 1, b9, Nat.le_refl _, by congr 1; omega, ?_⟩
        rw [show k + 1 - (k + 1) = 0 by omega]
        rfl
  · rintro ρ ⟨k, b8, b9, hk, hds, rfl⟩
    cases k with
    | succ k => rw [downD_succ] at hds; cases hds
    | zero => exact law7 hK hl g
  · refine ⟨ws.length - 1, a8, a9, Nat.le_refl _, ?_, ?_⟩
    · by_cases h0 : ws.length = 0
      · rw [h0]; rfl
      · congr 1
        omega
    · rw [Nat.sub_self]
      rfl
theorem law10 (hK : Lap E.nx) (hl : ws.length ≤ 8) (g : Good ws) : w_law_10 E [a0, some .bag, a2, some (tupI ws), a4, a5, a6, a7, a8, a9, a10, a11, a12] := by
  refine ⟨by rw [sizeLine_eq]; show 3 ≤ _; omega, ?_⟩
  refine lcW_map (fun d => match d with
    | .int p => .int (ledI p ws)
    | d => d) (fun d m K hK => ?_) ?_
  · simp only [List.mem_cons, List.not_mem_nil, or_false] at m
    rcases m with rfl | rfl | rfl
    · exact ⟨rfl, -1, ws, rfl, hK⟩
    · exact ⟨rfl, 0, ws, rfl, hK⟩
    · exact ⟨rfl, 1, ws, rfl, hK⟩
  · exact law8 hK hl g
end
theorem law_all {E : En} {a0 a2 a3 a4 a5 a6 a7 a8 a9 a10 a11 a12 : O} (h : E.rt (.d (.bool true))) : w_law E [a0, some .bag, a2, a3, a4, a5, a6, a7, a8, a9, a10, a11, a12] := by
  refine ⟨⟨by decide, by decide⟩, by rw [sizeLine_eq]; show 10 ≤ _; omega, ?_⟩
  refine forW_inv (fun ds ρ => ∃ a0 a2 a3 a4 a5 a6 a7 a8 a9 a10 a11 a12 : O, ρ = [a0, some .bag, a2, a3, a4, a5, a6, a7, a8, a9, a10, a11, a12]) ?_ ?_ _ _ ⟨a0, a2, a3, a4, a5, a6, a7, a8, a9, a10, a11, a12, rfl⟩
  · rintro d ds ρ K ⟨a0, a2, a3, a4, a5, a6, a7, a8, a9, a10, a11, a12, rfl⟩ hK
    have lap : Lap K := fun a0 a2 a3 a4 a5 a6 a7 a8 a9 a10 a11 a12 => hK _ ⟨a0, a2, a3, a4, a5, a6, a7, a8, a9, a10, a11, a12, rfl⟩
    refine ⟨rfl, 9, rfl, by decide, by decide, fun v h0 h9 => ?_⟩
    refine ⟨⟨by omega, by omega⟩, by rw [sizeLine_eq]; omega, ?_⟩
    refine lcW_inv (fun ds acc => ∃ ws : List Int, acc = ws.map .int ∧ (∀ w ∈ ws, w = -1 ∨ w = 1) ∧ ws.length + ds.length ≤ 8) ?_ ?_ _ _ ⟨[], rfl, by simp, by rw [countD_len]; simp; omega⟩
    · rintro d ds acc K2 ⟨ws, rfl, hw, hl⟩ hK2
      refine ⟨by rw [sizeLine_eq]; show 2 ≤ _; omega, rfl, _, rfl, by simp, by decide, fun x hx => ?_⟩
      simp only [List.mem_cons, List.not_mem_nil, or_false] at hx
      have hl' : ws.length + 1 + ds.length ≤ 8 := by simp at hl; omega
      rcases hx with rfl | rfl
      · refine hK2 _ ⟨ws ++ [-1], by simp, fun w m => ?_, by simpa using hl'⟩
        rcases List.mem_append.mp m with m | m
        · exact hw w m
        · exact .inl (by simpa using m)
      · refine hK2 _ ⟨ws ++ [1], by simp, fun w m => ?_, by simpa using hl'⟩
        rcases List.mem_append.mp m with m | m
        · exact hw w m
        · exact .inr (by simpa using m)
    · rintro acc ⟨ws, rfl, hw, hl⟩
      exact law10 lap (by simpa using hl) (Good.of hw (by simpa using hl))
  · rintro ρ ⟨a0, a2, a3, a4, a5, a6, a7, a8, a9, a10, a11, a12, rfl⟩
    exact h
end Pd

namespace Pd
open PySem PySem.Spec PyProof.Rows L2
theorem v_law : w_law lawEnd (lawStart N_law) := by
  show w_law lawEnd [none, some .bag, none, none, none, none, none, none, none, none, none, none, none]
  exact law_all rfl
theorem one_ref {x : Str} {mg : Str → Option Value} {a b : Addr} (h : mg x = some (.ref a)) (h2 : mg x = some (.ref b)) : a = b := by
  rw [h] at h2
  cases h2
  rfl
abbrev st__law_bag : Stmt := top 14
theorem sc__law_bag : FnScope ["script", "cell"] ["script"] (defScope st__law_bag) := ⟨rfl, rfl, rfl, by decide +kernel, rfl, by decide +kernel, by decide +kernel⟩
set_option maxHeartbeats 4000000 in
theorem all_mk {l : PySem.W.OpenLaw} {w : World} {K : PySem.W.Frag} {h : Heap} {mg : Str → Option Value} {fa : Addr} {ts : List Addr} {f_is_number f_is_tuple_of f_is_position f_are_ways f_led f_stretch f_leads_all f__law_take f__law_some f__law_alike f__law_led f__law_heard f__law_bag f_law : Addr} {oc_is_number oc_is_tuple_of oc_is_position oc_are_ways oc_led oc_stretch oc_leads_all oc__law_take oc__law_some oc__law_alike oc__law_led oc__law_heard oc__law_bag oc_law : Value} {kV_is_number kV_is_tuple_of kV_is_position kV_are_ways kV_led kV_stretch kV_leads_all kV__law_take kV__law_some kV__law_alike kV__law_led kV__law_heard kV__law_bag kV_law : Value} {dc_is_number dc_is_tuple_of dc_is_position dc_are_ways dc_led dc_stretch dc_leads_all dc__law_take dc__law_some dc__law_alike dc__law_led dc__law_heard dc__law_bag dc_law : Value} {pm_is_number pm_is_tuple_of pm_is_position pm_are_ways pm_led pm_stretch pm_leads_all pm__law_take pm__law_some pm__law_alike pm__law_led pm__law_heard pm__law_bag pm_law : Value} {ct_is_number ct_is_tuple_of ct_is_position ct_are_ways ct_led ct_stretch ct_leads_all ct__law_take ct__law_some ct__law_alike ct__law_led ct__law_heard ct__law_bag ct_law : Value} {od_is_number od_is_tuple_of od_is_position od_are_ways od_led od_stretch od_leads_all od__law_take od__law_some od__law_alike od__law_led od__law_heard od__law_bag od_law : Option Addr} {an_is_number an_is_tuple_of an_is_position an_are_ways an_led an_stretch an_leads_all an__law_take an__law_some an__law_alike an__law_led an__law_heard an__law_bag an_law : Option Addr} {sl_is_number sl_is_tuple_of sl_is_position sl_are_ways sl_led sl_stretch sl_leads_all sl__law_take sl__law_some sl__law_alike sl__law_led sl__law_heard sl__law_bag sl_law : Array (Option Value)} {cd_is_number cd_is_tuple_of cd_is_position cd_led cd_stretch cd_leads_all cd__law_take cd__law_some cd__law_alike cd__law_led cd__law_heard cd__law_bag : Value} {cc_are_ways pt_are_ways cc_law pt_law : Addr} {C_Nothing : Addr} (kin : K.In h) (G : h.Ns mainGlobals mg) (hfa : mg "law" = some (.ref fa)) (T : ∀ P ∈ ts, h.get? P = some tabO)
    (a_is_number : PySem.W.nsIn K mainGlobals "is_number" = some (some (.ref f_is_number)))
    (l_is_number : K.lookup f_is_number = some ⟨oc_is_number, od_is_number, .func (PySem.W.fnOf "is_number" "is_number" (defArgs st_is_number) (defBody st_is_number) (defScope st_is_number) .none kV_is_number dc_is_number pm_is_number an_is_number cd_is_number ct_is_number), sl_is_number⟩)
    (c_is_number : PySem.W.codeIn K cd_is_number "is_number" = true)
    (k_is_number : PySem.W.keepIn K (.ref f_is_number) = true)
    (a_is_tuple_of : PySem.W.nsIn K mainGlobals "is_tuple_of" = some (some (.ref f_is_tuple_of)))
    (l_is_tuple_of : K.lookup f_is_tuple_of = some ⟨oc_is_tuple_of, od_is_tuple_of, .func (PySem.W.fnOf "is_tuple_of" "is_tuple_of" (defArgs st_is_tuple_of) (defBody st_is_tuple_of) (defScope st_is_tuple_of) .none kV_is_tuple_of dc_is_tuple_of pm_is_tuple_of an_is_tuple_of cd_is_tuple_of ct_is_tuple_of), sl_is_tuple_of⟩)
    (c_is_tuple_of : PySem.W.codeIn K cd_is_tuple_of "is_tuple_of" = true)
    (k_is_tuple_of : PySem.W.keepIn K (.ref f_is_tuple_of) = true)
    (a_is_position : PySem.W.nsIn K mainGlobals "is_position" = some (some (.ref f_is_position)))
    (l_is_position : K.lookup f_is_position = some ⟨oc_is_position, od_is_position, .func (PySem.W.fnOf "is_position" "is_position" (defArgs st_is_position) (defBody st_is_position) (defScope st_is_position) .none kV_is_position dc_is_position pm_is_position an_is_position cd_is_position ct_is_position), sl_is_position⟩)
    (c_is_position : PySem.W.codeIn K cd_is_position "is_position" = true)
    (k_is_position : PySem.W.keepIn K (.ref f_is_position) = true)
    (a_are_ways : PySem.W.nsIn K mainGlobals "are_ways" = some (some (.ref f_are_ways)))
    (l_are_ways : K.lookup f_are_ways = some ⟨oc_are_ways, od_are_ways, .func (PySem.W.fnOf "are_ways" "are_ways" (defArgs st_are_ways) (defBody st_are_ways) (defScope st_are_ways) .none kV_are_ways dc_are_ways pm_are_ways an_are_ways (.ref cc_are_ways) ct_are_ways), sl_are_ways⟩)
    (c_are_ways : PySem.W.codeIn K (.ref cc_are_ways) "are_ways" = true)
    (k_are_ways : PySem.W.keepIn K (.ref f_are_ways) = true)
    (a_led : PySem.W.nsIn K mainGlobals "led" = some (some (.ref f_led)))
    (l_led : K.lookup f_led = some ⟨oc_led, od_led, .func (PySem.W.fnOf "led" "led" (defArgs st_led) (defBody st_led) (defScope st_led) .none kV_led dc_led pm_led an_led cd_led ct_led), sl_led⟩)
    (c_led : PySem.W.codeIn K cd_led "led" = true)
    (k_led : PySem.W.keepIn K (.ref f_led) = true)
    (a_stretch : PySem.W.nsIn K mainGlobals "stretch" = some (some (.ref f_stretch)))
    (l_stretch : K.lookup f_stretch = some ⟨oc_stretch, od_stretch, .func (PySem.W.fnOf "stretch" "stretch" (defArgs st_stretch) (defBody st_stretch) (defScope st_stretch) .none kV_stretch dc_stretch pm_stretch an_stretch cd_stretch ct_stretch), sl_stretch⟩)
    (c_stretch : PySem.W.codeIn K cd_stretch "stretch" = true)
    (k_stretch : PySem.W.keepIn K (.ref f_stretch) = true)
    (a_leads_all : PySem.W.nsIn K mainGlobals "leads_all" = some (some (.ref f_leads_all)))
    (l_leads_all : K.lookup f_leads_all = some ⟨oc_leads_all, od_leads_all, .func (PySem.W.fnOf "leads_all" "leads_all" (defArgs st_leads_all) (defBody st_leads_all) (defScope st_leads_all) .none kV_leads_all dc_leads_all pm_leads_all an_leads_all cd_leads_all ct_leads_all), sl_leads_all⟩)
    (c_leads_all : PySem.W.codeIn K cd_leads_all "leads_all" = true)
    (k_leads_all : PySem.W.keepIn K (.ref f_leads_all) = true)
    (a__law_take : PySem.W.nsIn K mainGlobals "_law_take" = some (some (.ref f__law_take)))
    (l__law_take : K.lookup f__law_take = some ⟨oc__law_take, od__law_take, .func (PySem.W.fnOf "_law_take" "_law_take" (defArgs st__law_take) (defBody st__law_take) (defScope st__law_take) .none kV__law_take dc__law_take pm__law_take an__law_take cd__law_take ct__law_take), sl__law_take⟩)
    (c__law_take : PySem.W.codeIn K cd__law_take "_law_take" = true)
    (k__law_take : PySem.W.keepIn K (.ref f__law_take) = true)
    (a__law_some : PySem.W.nsIn K mainGlobals "_law_some" = some (some (.ref f__law_some)))
    (l__law_some : K.lookup f__law_some = some ⟨oc__law_some, od__law_some, .func (PySem.W.fnOf "_law_some" "_law_some" (defArgs st__law_some) (defBody st__law_some) (defScope st__law_some) .none kV__law_some dc__law_some pm__law_some an__law_some cd__law_some ct__law_some), sl__law_some⟩)
    (c__law_some : PySem.W.codeIn K cd__law_some "_law_some" = true)
    (k__law_some : PySem.W.keepIn K (.ref f__law_some) = true)
    (a__law_alike : PySem.W.nsIn K mainGlobals "_law_alike" = some (some (.ref f__law_alike)))
    (l__law_alike : K.lookup f__law_alike = some ⟨oc__law_alike, od__law_alike, .func (PySem.W.fnOf "_law_alike" "_law_alike" (defArgs st__law_alike) (defBody st__law_alike) (defScope st__law_alike) .none kV__law_alike dc__law_alike pm__law_alike an__law_alike cd__law_alike ct__law_alike), sl__law_alike⟩)
    (c__law_alike : PySem.W.codeIn K cd__law_alike "_law_alike" = true)
    (k__law_alike : PySem.W.keepIn K (.ref f__law_alike) = true)
    (a__law_led : PySem.W.nsIn K mainGlobals "_law_led" = some (some (.ref f__law_led)))
    (l__law_led : K.lookup f__law_led = some ⟨oc__law_led, od__law_led, .func (PySem.W.fnOf "_law_led" "_law_led" (defArgs st__law_led) (defBody st__law_led) (defScope st__law_led) .none kV__law_led dc__law_led pm__law_led an__law_led cd__law_led ct__law_led), sl__law_led⟩)
    (c__law_led : PySem.W.codeIn K cd__law_led "_law_led" = true)
    (k__law_led : PySem.W.keepIn K (.ref f__law_led) = true)
    (a__law_heard : PySem.W.nsIn K mainGlobals "_law_heard" = some (some (.ref f__law_heard)))
    (l__law_heard : K.lookup f__law_heard = some ⟨oc__law_heard, od__law_heard, .func (PySem.W.fnOf "_law_heard" "_law_heard" (defArgs st__law_heard) (defBody st__law_heard) (defScope st__law_heard) .none kV__law_heard dc__law_heard pm__law_heard an__law_heard cd__law_heard ct__law_heard), sl__law_heard⟩)
    (c__law_heard : PySem.W.codeIn K cd__law_heard "_law_heard" = true)
    (k__law_heard : PySem.W.keepIn K (.ref f__law_heard) = true)
    (a__law_bag : PySem.W.nsIn K mainGlobals "_law_bag" = some (some (.ref f__law_bag)))
    (l__law_bag : K.lookup f__law_bag = some ⟨oc__law_bag, od__law_bag, .func (PySem.W.fnOf "_law_bag" "_law_bag" (defArgs st__law_bag) (defBody st__law_bag) (defScope st__law_bag) .none kV__law_bag dc__law_bag pm__law_bag an__law_bag cd__law_bag ct__law_bag), sl__law_bag⟩)
    (c__law_bag : PySem.W.codeIn K cd__law_bag "_law_bag" = true)
    (k__law_bag : PySem.W.keepIn K (.ref f__law_bag) = true)
    (a_law : PySem.W.nsIn K mainGlobals "law" = some (some (.ref f_law)))
    (l_law : K.lookup f_law = some ⟨oc_law, od_law, .func (PySem.W.fnOf "law" "law" (defArgs st_law) (defBody st_law) (defScope st_law) .none kV_law dc_law pm_law an_law (.ref cc_law) ct_law), sl_law⟩)
    (c_law : PySem.W.codeIn K (.ref cc_law) "law" = true)
    (k_law : PySem.W.keepIn K (.ref f_law) = true)
    (h_are_ways : PySem.W.codeHdIn K cc_are_ways pt_are_ways = true)
    (n_are_ways : K.lookup pt_are_ways = none)
    (m_are_ways : pt_are_ways ∈ ts)
    (h_law : PySem.W.codeHdIn K cc_law pt_law = true)
    (n_law : K.lookup pt_law = none)
    (m_law : pt_law ∈ ts)
    (d_are_ways_law : pt_are_ways ≠ pt_law)
    (aC_Nothing : PySem.W.nsIn K mainGlobals "Nothing" = some (some (.ref C_Nothing)))
    (xC_Nothing : PySem.W.excIn K C_Nothing [.type "ValueError", .type "Exception", .type "BaseException", .type "object"] "ValueError.__new__" = true)
    (kC_Nothing : PySem.W.keepIn K (.ref C_Nothing) = true)
    (bC_Nothing : PySem.W.subIn K (.ref C_Nothing) (.type "BaseException") = some true)
    (tC_Nothing : PySem.W.typeIn K (.ref C_Nothing) = some (.type "type"))
    (iC_Nothing : PySem.W.isClsIn K C_Nothing = true)
    (sC_Nothing : PySem.W.subIn K (.ref C_Nothing) (.ref C_Nothing) = some true)
    (z_abs : PySem.W.nsIn K mainGlobals "abs" = some none)
    (z_all : PySem.W.nsIn K mainGlobals "all" = some none)
    (z_bool : PySem.W.nsIn K mainGlobals "bool" = some none)
    (z_int : PySem.W.nsIn K mainGlobals "int" = some none)
    (z_isinstance : PySem.W.nsIn K mainGlobals "isinstance" = some none)
    (z_len : PySem.W.nsIn K mainGlobals "len" = some none)
    (z_list : PySem.W.nsIn K mainGlobals "list" = some none)
    (z_max : PySem.W.nsIn K mainGlobals "max" = some none)
    (z_min : PySem.W.nsIn K mainGlobals "min" = some none)
    (z_range : PySem.W.nsIn K mainGlobals "range" = some none)
    (z_repr : PySem.W.nsIn K mainGlobals "repr" = some none)
    (z_set : PySem.W.nsIn K mainGlobals "set" = some none)
    (z_sorted : PySem.W.nsIn K mainGlobals "sorted" = some none)
    (z_sum : PySem.W.nsIn K mainGlobals "sum" = some none)
    (z_tuple : PySem.W.nsIn K mainGlobals "tuple" = some none) :
    LawAtG l w K 19 63 "script" mg fa h := by
  obtain rfl : fa = f_law := one_ref hfa (PySem.W.mg_of kin G a_law)
  have B : Bs mg := ⟨PySem.W.mg_none_of kin G z_abs, PySem.W.mg_none_of kin G z_all, PySem.W.mg_none_of kin G z_bool, PySem.W.mg_none_of kin G z_int, PySem.W.mg_none_of kin G z_isinstance, PySem.W.mg_none_of kin G z_len, PySem.W.mg_none_of kin G z_list, PySem.W.mg_none_of kin G z_max, PySem.W.mg_none_of kin G z_min, PySem.W.mg_none_of kin G z_range, PySem.W.mg_none_of kin G z_repr, PySem.W.mg_none_of kin G z_set, PySem.W.mg_none_of kin G z_sorted, PySem.W.mg_none_of kin G z_sum, PySem.W.mg_none_of kin G z_tuple⟩
  have F_is_number := fun_mk (st := st_is_number) l_is_number c_is_number k_is_number
  have b_is_number := F_is_number.binds (ps := ["thing"]) fun _ _ _ _ _ _ us hl => match us, hl with | [_], _ => rfl
  have g_is_number := PySem.W.mg_of kin G a_is_number
  have F_is_tuple_of := fun_mk (st := st_is_tuple_of) l_is_tuple_of c_is_tuple_of k_is_tuple_of
  have b_is_tuple_of := F_is_tuple_of.binds (ps := ["thing", "is_one"]) fun _ _ _ _ _ _ us hl => match us, hl with | [_, _], _ => rfl
  have g_is_tuple_of := PySem.W.mg_of kin G a_is_tuple_of
  have F_is_position := fun_mk (st := st_is_position) l_is_position c_is_position k_is_position
  have b_is_position := F_is_position.binds (ps := ["thing"]) fun _ _ _ _ _ _ us hl => match us, hl with | [_], _ => rfl
  have g_is_position := PySem.W.mg_of kin G a_is_position
  have F_are_ways := fun_mk (st := st_are_ways) l_are_ways c_are_ways k_are_ways
  have b_are_ways := F_are_ways.binds (ps := ["thing"]) fun _ _ _ _ _ _ us hl => match us, hl with | [_], _ => rfl
  have g_are_ways := PySem.W.mg_of kin G a_are_ways
  have F_led := fun_mk (st := st_led) l_led c_led k_led
  have b_led := F_led.binds (ps := ["position", "ways"]) fun _ _ _ _ _ _ us hl => match us, hl with | [_, _], _ => rfl
  have g_led := PySem.W.mg_of kin G a_led
  have F_stretch := fun_mk (st := st_stretch) l_stretch c_stretch k_stretch
  have b_stretch := F_stretch.binds (ps := ["ways"]) fun _ _ _ _ _ _ us hl => match us, hl with | [_], _ => rfl
  have g_stretch := PySem.W.mg_of kin G a_stretch
  have F_leads_all := fun_mk (st := st_leads_all) l_leads_all c_leads_all k_leads_all
  have b_leads_all := F_leads_all.binds (ps := ["ways"]) fun _ _ _ _ _ _ us hl => match us, hl with | [_], _ => rfl
  have g_leads_all := PySem.W.mg_of kin G a_leads_all
  have F__law_take := fun_mk (st := st__law_take) l__law_take c__law_take k__law_take
  have b__law_take := F__law_take.binds (ps := ["bag", "many"]) fun _ _ _ _ _ _ us hl => match us, hl with | [_, _], _ => rfl
  have g__law_take := PySem.W.mg_of kin G a__law_take
  have F__law_some := fun_mk (st := st__law_some) l__law_some c__law_some k__law_some
  have b__law_some := F__law_some.binds (ps := ["bag", "things"]) fun _ _ _ _ _ _ us hl => match us, hl with | [_, _], _ => rfl
  have g__law_some := PySem.W.mg_of kin G a__law_some
  have F__law_alike := fun_mk (st := st__law_alike) l__law_alike c__law_alike k__law_alike
  have b__law_alike := F__law_alike.binds (ps := ["found", "due"]) fun _ _ _ _ _ _ us hl => match us, hl with | [_, _], _ => rfl
  have g__law_alike := PySem.W.mg_of kin G a__law_alike
  have F__law_led := fun_mk (st := st__law_led) l__law_led c__law_led k__law_led
  have b__law_led := F__law_led.binds (ps := ["position", "ways"]) fun _ _ _ _ _ _ us hl => match us, hl with | [_, _], _ => rfl
  have g__law_led := PySem.W.mg_of kin G a__law_led
  have F__law_heard := fun_mk (st := st__law_heard) l__law_heard c__law_heard k__law_heard
  have b__law_heard := F__law_heard.binds (ps := ["act"]) fun _ _ _ _ _ _ us hl => match us, hl with | [_], _ => rfl
  have g__law_heard := PySem.W.mg_of kin G a__law_heard
  have F__law_bag := fun_mk (st := st__law_bag) l__law_bag c__law_bag k__law_bag
  have b__law_bag := F__law_bag.binds (ps := ["script"]) fun _ _ _ _ _ _ us hl => match us, hl with | [_], _ => rfl
  have g__law_bag := PySem.W.mg_of kin G a__law_bag
  have F_law := fun_mk (st := st_law) l_law c_law k_law
  have b_law := F_law.binds (ps := ["script"]) fun _ _ _ _ _ _ us hl => match us, hl with | [_], _ => rfl
  have g_law := PySem.W.mg_of kin G a_law
  have gC_Nothing := PySem.W.mg_of kin G aC_Nothing
  have x_Nothing : XCls K mg "Nothing" := ⟨C_Nothing, _, _, _, _, PySem.F.excBase_ValueError, xC_Nothing, gC_Nothing, kC_Nothing, bC_Nothing, tC_Nothing⟩
  have caught_Nothing : ∀ e ∈ (["Nothing"] : List Str), ∀ C, mg e = some (.ref C) → PySem.W.exmOne K (.ref C) (.ref C_Nothing) = some true := fun e m C hC => by
    simp only [List.mem_singleton] at m
    subst m
    obtain rfl := one_ref hC gC_Nothing
    exact exm_of bC_Nothing iC_Nothing tC_Nothing sC_Nothing
  refine ⟨PySem.W.fnOf "law" "law" (defArgs st_law) (defBody st_law) (defScope st_law) .none kV_law dc_law pm_law an_law (.ref cc_law) ct_law, [(cc_are_ways, pt_are_ways), (cc_law, pt_law)], spLaw K [(pt_are_ways, (("are_ways" : Str) ++ ".<locals>." ++ "<lambda>" : Str)), (pt_law, (("law" : Str) ++ ".<locals>." ++ "<lambda>" : Str))], fun p m => ?_, fun p m => ?_, fun p m => ?_, fun s v => .of_eq rfl, fun H a ns few tabs scr => ⟨a, ns, rfl, scr, few, fun p m => ?_, fun _ => rfl⟩, fun base bk bg tb => ?_⟩
  · simp only [List.mem_cons, List.not_mem_nil, or_false] at m
    rcases m with rfl | rfl
    · exact T _ m_are_ways
    · exact T _ m_law
  · simp only [List.mem_cons, List.not_mem_nil, or_false] at m
    rcases m with rfl | rfl
    · exact n_are_ways
    · exact n_law
  · simp only [List.mem_cons, List.not_mem_nil, or_false] at m
    rcases m with rfl | rfl
    · exact PySem.W.codeHd_of_K kin h_are_ways
    · exact PySem.W.codeHd_of_K kin h_law
  · simp only [List.mem_cons, List.not_mem_nil, or_false] at m
    rcases m with rfl | rfl
    · exact LamX.TabS.nil (tabs (cc_are_ways, pt_are_ways) (by simp))
    · exact LamX.TabS.nil (tabs (cc_law, pt_law) (by simp))
  · have D_is_number := s_is_number (P := l.prog) (w := w) (base := base) (TT := [(pt_are_ways, (("are_ways" : Str) ++ ".<locals>." ++ "<lambda>" : Str)), (pt_law, (("law" : Str) ++ ".<locals>." ++ "<lambda>" : Str))]) B ⟨_, _, F_is_number, g_is_number, b_is_number⟩ v_is_number
    have D_is_tuple_of := s_is_tuple_of (P := l.prog) (w := w) (base := base) (TT := [(pt_are_ways, (("are_ways" : Str) ++ ".<locals>." ++ "<lambda>" : Str)), (pt_law, (("law" : Str) ++ ".<locals>." ++ "<lambda>" : Str))]) B ⟨_, _, F_is_tuple_of, g_is_tuple_of, b_is_tuple_of⟩ v_is_tuple_of
    have D_is_position := s_is_position (P := l.prog) (w := w) (base := base) (TT := [(pt_are_ways, (("are_ways" : Str) ++ ".<locals>." ++ "<lambda>" : Str)), (pt_law, (("law" : Str) ++ ".<locals>." ++ "<lambda>" : Str))]) B ⟨_, _, F_is_position, g_is_position, b_is_position⟩ D_is_number v_is_position
    have D_are_ways := s_are_ways (P := l.prog) (w := w) (base := base) (TT := [(pt_are_ways, (("are_ways" : Str) ++ ".<locals>." ++ "<lambda>" : Str)), (pt_law, (("law" : Str) ++ ".<locals>." ++ "<lambda>" : Str))]) B ⟨_, _, F_are_ways, g_are_ways, b_are_ways⟩ D_is_tuple_of D_is_position (tb (cc_are_ways, pt_are_ways) (by simp)) (fun f hf => by obtain rfl := one_ref hf g_are_ways; exact ⟨_, _, _, _, l_are_ways, rfl⟩) (by simp) (fun p m e => by
        simp only [List.mem_cons, List.not_mem_nil, or_false] at m
        rcases m with rfl | rfl
        · exact rfl
        · exact absurd e (by first | exact d_law_are_ways | exact fun z => d_are_ways_law z.symm)) v_are_ways
    have D_led := s_led (P := l.prog) (w := w) (base := base) (TT := [(pt_are_ways, (("are_ways" : Str) ++ ".<locals>." ++ "<lambda>" : Str)), (pt_law, (("law" : Str) ++ ".<locals>." ++ "<lambda>" : Str))]) B ⟨_, _, F_led, g_led, b_led⟩ D_is_position D_are_ways x_Nothing v_led
    have D_stretch := s_stretch (P := l.prog) (w := w) (base := base) (TT := [(pt_are_ways, (("are_ways" : Str) ++ ".<locals>." ++ "<lambda>" : Str)), (pt_law, (("law" : Str) ++ ".<locals>." ++ "<lambda>" : Str))]) B ⟨_, _, F_stretch, g_stretch, b_stretch⟩ D_are_ways x_Nothing v_stretch
    have D_leads_all := s_leads_all (P := l.prog) (w := w) (base := base) (TT := [(pt_are_ways, (("are_ways" : Str) ++ ".<locals>." ++ "<lambda>" : Str)), (pt_law, (("law" : Str) ++ ".<locals>." ++ "<lambda>" : Str))]) B ⟨_, _, F_leads_all, g_leads_all, b_leads_all⟩ D_stretch v_leads_all
    have D__law_take := s__law_take (P := l.prog) (w := w) (base := base) (TT := [(pt_are_ways, (("are_ways" : Str) ++ ".<locals>." ++ "<lambda>" : Str)), (pt_law, (("law" : Str) ++ ".<locals>." ++ "<lambda>" : Str))]) B ⟨_, _, F__law_take, g__law_take, b__law_take⟩ v__law_take
    have D__law_some := s__law_some (P := l.prog) (w := w) (base := base) (TT := [(pt_are_ways, (("are_ways" : Str) ++ ".<locals>." ++ "<lambda>" : Str)), (pt_law, (("law" : Str) ++ ".<locals>." ++ "<lambda>" : Str))]) B ⟨_, _, F__law_some, g__law_some, b__law_some⟩ D__law_take v__law_some
    have D__law_alike := s__law_alike (P := l.prog) (w := w) (base := base) (TT := [(pt_are_ways, (("are_ways" : Str) ++ ".<locals>." ++ "<lambda>" : Str)), (pt_law, (("law" : Str) ++ ".<locals>." ++ "<lambda>" : Str))]) B ⟨_, _, F__law_alike, g__law_alike, b__law_alike⟩ v__law_alike
    have D__law_led := s__law_led (P := l.prog) (w := w) (base := base) (TT := [(pt_are_ways, (("are_ways" : Str) ++ ".<locals>." ++ "<lambda>" : Str)), (pt_law, (("law" : Str) ++ ".<locals>." ++ "<lambda>" : Str))]) B ⟨_, _, F__law_led, g__law_led, b__law_led⟩ v__law_led
    have FB : FnOk l.prog w K mg base (L2.CX l.prog w) 1 f__law_bag _ ["script"] (spBag K [(pt_are_ways, (("are_ways" : Str) ++ ".<locals>." ++ "<lambda>" : Str)), (pt_law, (("law" : Str) ++ ".<locals>." ++ "<lambda>" : Str))]) := bag_fn (k := 0) F__law_bag sc__law_bag fun cdv A outer s H E a ns hS few gr => sim_bone (sim_retO (sim_lst (sim_cons sim_int (sim_cons sim_int (sim_cons sim_int (sim_cons (sim_lc (own := [("cell", 1)]) rfl sc__law_bag.nd gr (sim_scr hS few) (blkOk_by (N := ["script", "cell"]) (sc := defScope st__law_bag) (by decide +kernel)) (by decide) (fun s H C cl fp => sim_bname 1 sc__law_bag.nd) (fun s H C cl fp => sim_tsnil) (fun s H C cl fp => sim_callB cd_abs rfl (PySem.W.mg_none_of kin G z_abs) (by decide +kernel) (sim_cons (sim_var 1) sim_nil))) sim_nil))))))
    exact law_fn (k := 18) F_law sc_law rfl FB (by decide) g__law_bag k__law_bag b__law_bag rfl rfl (by first | exact Or.inl rfl | exact Or.inr (Or.inl rfl)) (by first | exact Or.inl rfl | exact Or.inr rfl) rfl (fun cdv A outer s H E Z ow Hb hc hgd hr hT gr => s_law B D__law_take D__law_some D__law_led D_are_ways D_leads_all D_stretch D_led D__law_alike (tb (cc_law, pt_law) (by simp)) (fun f hf => by obtain rfl := one_ref hf g_law; exact ⟨_, _, _, _, l_law, rfl⟩) (by simp) (fun p m e => by
        simp only [List.mem_cons, List.not_mem_nil, or_false] at m
        rcases m with rfl | rfl
        · exact absurd e (by first | exact d_are_ways_law | exact fun z => d_law_are_ways z.symm)
        · exact rfl) F__law_heard g__law_heard b__law_heard gC_Nothing caught_Nothing g_law hc hgd hr hT gr) v_law
end Pd

open PySem PySem.W PyProof.Rows
set_option maxRecDepth 100000 in
set_option maxHeartbeats 0 in
theorem PySem.Challenge.cw_sevenpedals_k14_ways_that_lead_to_one_po_holds : PySem.Challenge.rw_sevenpedals_k14_ways_that_lead_to_one_po.Holds := by
  w_on; o_law; k_head; (case hw => w_witness2)
  k_fill
  refine Pd.law_walk (l := PySem.Challenge.rw_sevenpedals_k14_ways_that_lead_to_one_po) (n := 63) (k := 19) (x := "script") rfl (by decide) rfl ⟨rfl, by decide, by decide⟩ (fun w h Y => PySem.W.km_in_of Y) ?F
  case F =>
    intro w mg fa h Y kin G hmg
    refine' Pd.all_mk (l := PySem.Challenge.rw_sevenpedals_k14_ways_that_lead_to_one_po) kin G hmg (PySem.W.km_tabs_of Y) ?a_is_number ?l_is_number ?c_is_number ?k_is_number ?a_is_tuple_of ?l_is_tuple_of ?c_is_tuple_of ?k_is_tuple_of ?a_is_position ?l_is_position ?c_is_position ?k_is_position ?a_are_ways ?l_are_ways ?c_are_ways ?k_are_ways ?a_led ?l_led ?c_led ?k_led ?a_stretch ?l_stretch ?c_stretch ?k_stretch ?a_leads_all ?l_leads_all ?c_leads_all ?k_leads_all ?a__law_take ?l__law_take ?c__law_take ?k__law_take ?a__law_some ?l__law_some ?c__law_some ?k__law_some ?a__law_alike ?l__law_alike ?c__law_alike ?k__law_alike ?a__law_led ?l__law_led ?c__law_led ?k__law_led ?a__law_heard ?l__law_heard ?c__law_heard ?k__law_heard ?a__law_bag ?l__law_bag ?c__law_bag ?k__law_bag ?a_law ?l_law ?c_law ?k_law ?h_are_ways ?n_are_ways ?m_are_ways ?h_law ?n_law ?m_law ?d_are_ways_law ?aC_Nothing ?xC_Nothing ?kC_Nothing ?bC_Nothing ?tC_Nothing ?iC_Nothing ?sC_Nothing ?z_abs ?z_all ?z_bool ?z_int ?z_isinstance ?z_len ?z_list ?z_max ?z_min ?z_range ?z_repr ?z_set ?z_sorted ?z_sum ?z_tuple
    (case a_is_number => first | k_is | rfl)
    (case l_is_number => first | k_is | rfl)
    (case c_is_number => first | k_is | rfl)
    (case k_is_number => first | k_is | rfl)
    (case a_is_tuple_of => first | k_is | rfl)
    (case l_is_tuple_of => first | k_is | rfl)
    (case c_is_tuple_of => first | k_is | rfl)
    (case k_is_tuple_of => first | k_is | rfl)
    (case a_is_position => first | k_is | rfl)
    (case l_is_position => first | k_is | rfl)
    (case c_is_position => first | k_is | rfl)
    (case k_is_position => first | k_is | rfl)
    (case a_are_ways => first | k_is | rfl)
    (case l_are_ways => first | k_is | rfl)
    (case c_are_ways => first | k_is | rfl)
    (case k_are_ways => first | k_is | rfl)
    (case a_led => first | k_is | rfl)
    (case l_led => first | k_is | rfl)
    (case c_led => first | k_is | rfl)
    (case k_led => first | k_is | rfl)
    (case a_stretch => first | k_is | rfl)
    (case l_stretch => first | k_is | rfl)
    (case c_stretch => first | k_is | rfl)
    (case k_stretch => first | k_is | rfl)
    (case a_leads_all => first | k_is | rfl)
    (case l_leads_all => first | k_is | rfl)
    (case c_leads_all => first | k_is | rfl)
    (case k_leads_all => first | k_is | rfl)
    (case a__law_take => first | k_is | rfl)
    (case l__law_take => first | k_is | rfl)
    (case c__law_take => first | k_is | rfl)
    (case k__law_take => first | k_is | rfl)
    (case a__law_some => first | k_is | rfl)
    (case l__law_some => first | k_is | rfl)
    (case c__law_some => first | k_is | rfl)
    (case k__law_some => first | k_is | rfl)
    (case a__law_alike => first | k_is | rfl)
    (case l__law_alike => first | k_is | rfl)
    (case c__law_alike => first | k_is | rfl)
    (case k__law_alike => first | k_is | rfl)
    (case a__law_led => first | k_is | rfl)
    (case l__law_led => first | k_is | rfl)
    (case c__law_led => first | k_is | rfl)
    (case k__law_led => first | k_is | rfl)
    (case a__law_heard => first | k_is | rfl)
    (case l__law_heard => first | k_is | rfl)
    (case c__law_heard => first | k_is | rfl)
    (case k__law_heard => first | k_is | rfl)
    (case a__law_bag => first | k_is | rfl)
    (case l__law_bag => first | k_is | rfl)
    (case c__law_bag => first | k_is | rfl)
    (case k__law_bag => first | k_is | rfl)
    (case a_law => first | k_is | rfl)
    (case l_law => first | k_is | rfl)
    (case c_law => first | k_is | rfl)
    (case k_law => first | k_is | rfl)
    (first | ((case m_are_ways => exact (.head _)); (case h_are_ways => first | k_is | rfl)) | ((case m_are_ways => exact (.tail _ (.head _))); (case h_are_ways => first | k_is | rfl)))
    (case n_are_ways => first | k_is | rfl)
    skip
    (first | ((case m_law => exact (.head _)); (case h_law => first | k_is | rfl)) | ((case m_law => exact (.tail _ (.head _))); (case h_law => first | k_is | rfl)))
    (case n_law => first | k_is | rfl)
    skip
    (case d_are_ways_law => decide)
    (case aC_Nothing => first | k_is | rfl)
    (case xC_Nothing => k_exc)
    (case kC_Nothing => first | k_is | rfl)
    (case bC_Nothing => first | k_is | rfl)
    (case tC_Nothing => first | k_is | rfl)
    (case iC_Nothing => first | k_is | rfl)
    (case sC_Nothing => first | k_is | rfl)
    (case z_abs => first | k_is | rfl)
    (case z_all => first | k_is | rfl)
    (case z_bool => first | k_is | rfl)
    (case z_int => first | k_is | rfl)
    (case z_isinstance => first | k_is | rfl)
    (case z_len => first | k_is | rfl)
    (case z_list => first | k_is | rfl)
    (case z_max => first | k_is | rfl)
    (case z_min => first | k_is | rfl)
    (case z_range => first | k_is | rfl)
    (case z_repr => first | k_is | rfl)
    (case z_set => first | k_is | rfl)
    (case z_sorted => first | k_is | rfl)
    (case z_sum => first | k_is | rfl)
    (case z_tuple => first | k_is | rfl)
