import PyProof.Rows.All
import Wide.All
import OpenK.AllK
import Wide.FinOn
import PyProof.ReprRoads
import PyProof.TupleOfSeq
import PyProof.Rows.ReprShort
import PySem.Challenge.RW_sevenpedals_k01_first_faults_of_harps
import HandS.ForMost
import HandS.ForExc
import HandS.Lambda
import KE.KeyNested
import HandS.CallSlots
import HandS.IsInst
import HandS.TupAny
import HandS.Style
import KE.DataEq
import KE.DataIsa
import KE.DataAny
import KE.DataMinMax
import KE.SortData
import KE.KTupSum
import HandS.Star
import HandS.Zip
import HandS.SetFor
import HandS.Nested
import HandS.WordsExc
import HandS.Small
import HandS.Strs
import HandS.Iter
import HandS.EndTab
import KE.GoesMore
import HandS.FStr
import HandS.Conv
import HandS.Deep
import HandS.Text
import HandS.TupMul
import HandS.RaiseMore
import KE.KExcSuper
import KE.KSuper
import HandS.ExcInit
import HandS.ExcSuper
import HandS.ExcValue
import HandS.TryMany
import HandS.ExcField
import KE.DataCmp
import HandS.DictComp
import HandS.More
import HandS.WordsDict
set_option Elab.async false
set_option linter.all false
set_option maxRecDepth 100000
/-! Pd1: data over the abstract heap: what a value is worth as data, what stays of it, the environment by slots. -/
namespace Pd
open PySem PySem.Spec PyProof.Rows L2

abbrev D := PyData
def keyD : L2.Key → D
  | .inl i => .int i
  | .inr x => .str x

mutual
/-- the value v is the data d, by what stands in H -/
inductive Dt (K : PySem.W.Frag) (H : Hp) : V → D → Prop
  | non : Dt K H .non .none
  | bl (b : Bool) : Dt K H (.bl b) (.bool b)
  | int (i : Int) : Dt K H (.int i) (.int i)
  | str (x : Str) : Dt K H (.str x) (.str x)
  | lst {a : Addr} {xs : List V} {ds : List D} : H a = some (.lst xs) → DtAll K H xs ds → Dt K H (.ref a) (.list ds)
  | tup {a : Addr} {xs : List V} {ds : List D} : SqT K H a xs → DtAll K H xs ds → Dt K H (.ref a) (.tuple ds)
inductive DtAll (K : PySem.W.Frag) (H : Hp) : List V → List D → Prop
  | nil : DtAll K H [] []
  | cons {v : V} {vs : List V} {d : D} {ds : List D} : Dt K H v d → DtAll K H vs ds → DtAll K H (v :: vs) (d :: ds)
end

/-- what stands stays -/
def Le (H H' : Hp) : Prop := ∀ a o, H a = some o → H' a = some o
theorem Le.refl (H : Hp) : Le H H := fun _ _ h => h
theorem Le.trans {A B C : Hp} (x : Le A B) (y : Le B C) : Le A C := fun a o h => y a o (x a o h)
theorem Le.sqt {K : PySem.W.Frag} {H H' : Hp} {a : Addr} {xs : List V} (e : Le H H') (h : SqT K H a xs) : SqT K H' a xs := by
  rcases h with (h | ⟨o, h⟩) | h
  · exact .inl (.inl (e _ _ h))
  · exact .inl (.inr ⟨o, e _ _ h⟩)
  · exact .inr h

mutual
theorem Dt.mono {K : PySem.W.Frag} {H H' : Hp} (e : Le H H') : ∀ {v : V} {d : D}, Dt K H v d → Dt K H' v d
  | _, _, .non => .non
  | _, _, .bl b => .bl b
  | _, _, .int i => .int i
  | _, _, .str x => .str x
  | _, _, .lst h t => .lst (e _ _ h) (DtAll.mono e t)
  | _, _, .tup h t => .tup (e.sqt h) (DtAll.mono e t)
theorem DtAll.mono {K : PySem.W.Frag} {H H' : Hp} (e : Le H H') : ∀ {vs : List V} {ds : List D}, DtAll K H vs ds → DtAll K H' vs ds
  | _, _, .nil => .nil
  | _, _, .cons h t => .cons (Dt.mono e h) (DtAll.mono e t)
end
mutual
theorem Dt.dp {K : PySem.W.Frag} {H : Hp} : ∀ {v : V} {d : D}, Dt K H v d → Dp K H v d
  | _, _, .non => .non
  | _, _, .bl b => .bl b
  | _, _, .int i => .int i
  | _, _, .str x => .str x
  | _, _, .lst h t => .lst (.inl (.of h)) (DtAll.dp t)
  | _, _, .tup h t => .tup h (DtAll.dp t)
theorem DtAll.dp {K : PySem.W.Frag} {H : Hp} : ∀ {vs : List V} {ds : List D}, DtAll K H vs ds → DpAll K H vs ds
  | _, _, .nil => .nil
  | _, _, .cons h t => .cons (Dt.dp h) (DtAll.dp t)
end
theorem DtAll.length {K : PySem.W.Frag} {H : Hp} : ∀ {vs : List V} {ds : List D}, DtAll K H vs ds → vs.length = ds.length
  | _, _, .nil => rfl
  | _, _, .cons _ t => by simp [DtAll.length t]
theorem DtAll.append {K : PySem.W.Frag} {H : Hp} : ∀ {vs ws : List V} {ds es : List D}, DtAll K H vs ds → DtAll K H ws es → DtAll K H (vs ++ ws) (ds ++ es)
  | _, _, _, _, .nil, s => s
  | _, _, _, _, .cons h t, s => .cons h (DtAll.append t s)
theorem DtAll.get {K : PySem.W.Frag} {H : Hp} : ∀ {vs : List V} {ds : List D} {i : Nat} {d : D}, DtAll K H vs ds → ds[i]? = some d → ∃ v, vs[i]? = some v ∧ Dt K H v d
  | _, _, _, _, .nil, e => by simp at e
  | _, _, 0, _, .cons h _, e => by simp at e; subst e; exact ⟨_, rfl, h⟩
  | _, _, i + 1, _, .cons _ t, e => by
    obtain ⟨v, h1, h2⟩ := DtAll.get (i := i) t (by simpa using e)
    exact ⟨v, by simpa using h1, h2⟩
theorem DtAll.get' {K : PySem.W.Frag} {H : Hp} : ∀ {vs : List V} {ds : List D} {i : Nat} {v : V}, DtAll K H vs ds → vs[i]? = some v → ∃ d, ds[i]? = some d ∧ Dt K H v d
  | _, _, _, _, .nil, e => by simp at e
  | _, _, 0, _, .cons h _, e => by simp at e; subst e; exact ⟨_, rfl, h⟩
  | _, _, i + 1, _, .cons _ t, e => by
    obtain ⟨d, h1, h2⟩ := DtAll.get' (i := i) t (by simpa using e)
    exact ⟨d, by simpa using h1, h2⟩
theorem DtAll.take {K : PySem.W.Frag} {H : Hp} : ∀ {vs : List V} {ds : List D} (n : Nat), DtAll K H vs ds → DtAll K H (vs.take n) (ds.take n)
  | _, _, 0, _ => .nil
  | _, _, _ + 1, .nil => .nil
  | _, _, n + 1, .cons h t => .cons h (DtAll.take n t)
theorem DtAll.drop {K : PySem.W.Frag} {H : Hp} : ∀ {vs : List V} {ds : List D} (n : Nat), DtAll K H vs ds → DtAll K H (vs.drop n) (ds.drop n)
  | _, _, 0, r => r
  | _, _, _ + 1, .nil => .nil
  | _, _, n + 1, .cons _ t => DtAll.drop n t
theorem DtAll.set {K : PySem.W.Frag} {H : Hp} {v : V} {d : D} (h : Dt K H v d) : ∀ {vs : List V} {ds : List D} (n : Nat), DtAll K H vs ds → DtAll K H (vs.set n v) (ds.set n d)
  | _, _, _, .nil => .nil
  | _, _, 0, .cons _ t => .cons h t
  | _, _, n + 1, .cons g t => .cons g (DtAll.set h n t)
theorem DtAll.reverse {K : PySem.W.Frag} {H : Hp} : ∀ {vs : List V} {ds : List D}, DtAll K H vs ds → DtAll K H vs.reverse ds.reverse
  | _, _, .nil => .nil
  | _, _, .cons h t => by
    rw [List.reverse_cons, List.reverse_cons]
    exact (DtAll.reverse t).append (.cons h .nil)
/-- ints -/
theorem DtAll.ints {K : PySem.W.Frag} {H : Hp} : ∀ {vs : List V} {ns : List Int}, DtAll K H vs (ns.map .int) → vs = ns.map .int
  | _, [], .nil => rfl
  | _, n :: ns, .cons h t => by
    cases h
    rw [DtAll.ints t]
    rfl
theorem DtAll.ofInts {K : PySem.W.Frag} {H : Hp} : ∀ (ns : List Int), DtAll K H (ns.map .int) (ns.map .int)
  | [] => .nil
  | n :: ns => .cons (.int n) (DtAll.ofInts ns)
theorem DtAll.strs {K : PySem.W.Frag} {H : Hp} : ∀ {vs : List V} {ns : List Str}, DtAll K H vs (ns.map .str) → vs = ns.map .str
  | _, [], .nil => rfl
  | _, n :: ns, .cons h t => by
    cases h
    rw [DtAll.strs t]
    rfl
theorem DtAll.ofStrs {K : PySem.W.Frag} {H : Hp} : ∀ (ns : List Str), DtAll K H (ns.map .str) (ns.map .str)
  | [] => .nil
  | n :: ns => .cons (.str n) (DtAll.ofStrs ns)
theorem DtAll.bools {K : PySem.W.Frag} {H : Hp} : ∀ {vs : List V} {ns : List Bool}, DtAll K H vs (ns.map .bool) → vs = ns.map .bl
  | _, [], .nil => rfl
  | _, n :: ns, .cons h t => by
    cases h
    rw [DtAll.bools t]
    rfl

/-! ### the heap without some addresses; code objects' tables stand aside -/
/-- no table -/
def NT (o : HO) : Prop := ∀ ps, o ≠ .tbl ps
theorem nt_lst {xs : List V} : NT (.lst xs) := fun _ z => nomatch z
theorem nt_tup {xs : List V} : NT (.tup xs) := fun _ z => nomatch z
def hid (ow : List Addr) (H : Hp) : Hp := fun a => if a ∈ ow then none else match H a with
  | some (.tbl _) => none
  | o => o
theorem hid_some {ow : List Addr} {H : Hp} {a : Addr} {o : HO} (h : hid ow H a = some o) : a ∉ ow ∧ H a = some o ∧ NT o := by
  unfold hid at h
  by_cases m : a ∈ ow
  · rw [if_pos m] at h; cases h
  · rw [if_neg m] at h
    split at h
    · cases h
    · rename_i n
      exact ⟨m, h, fun ps z => n ps (by rw [h, z])⟩
theorem hid_of {ow : List Addr} {H : Hp} {a : Addr} {o : HO} (m : a ∉ ow) (h : H a = some o) (n : NT o) : hid ow H a = some o := by
  unfold hid
  rw [if_neg m]
  split
  · rename_i ps e
    rw [h] at e
    exact absurd (Option.some.inj e) (n ps)
  · exact h
theorem hid_le {ow : List Addr} {H : Hp} : Le (hid ow H) H := fun _ _ h => (hid_some h).2.1
/-- but at fp (and but for tables) what stands stays -/
def SameBut (fp : List Addr) (H H' : Hp) : Prop := ∀ a o, a ∉ fp → NT o → H a = some o → H' a = some o
theorem SameBut.refl (fp : List Addr) (H : Hp) : SameBut fp H H := fun _ _ _ _ h => h
theorem SameBut.trans {fp : List Addr} {A B C : Hp} (x : SameBut fp A B) (y : SameBut fp B C) : SameBut fp A C := fun a o n t h => y a o n t (x a o n t h)
theorem SameBut.of_le {fp : List Addr} {H H' : Hp} (h : Le H H') : SameBut fp H H' := fun a o _ _ e => h a o e
theorem Le.new {H : Hp} {p : Addr} {o : HO} (h : H p = none) : Le H (upd H p o) := fun a u e => by
  rw [upd_ne (ne_of_none e h)]
  exact e
theorem SameBut.new {fp : List Addr} {H : Hp} {p : Addr} {o : HO} (h : H p = none) : SameBut fp H (upd H p o) := .of_le (Le.new h)
/-- nothing stands at p (but perhaps a table) -/
def New (H : Hp) (p : Addr) : Prop := ∀ o, NT o → H p ≠ some o
theorem New.of {H : Hp} {p : Addr} (h : H p = none) : New H p := fun o _ e => by rw [h] at e; cases e
theorem SameBut.free {fp : List Addr} {H H' : Hp} (e : SameBut fp H H') {l : Addr} (n : l ∉ fp) (h : New H' l) : New H l := fun o t q => h o t (e l o n t q)
theorem hid_mono {fp ow ow' : List Addr} {H H' : Hp} (e : SameBut fp H H') (hf : ∀ a ∈ fp, a ∈ ow) (ho : ∀ a ∈ ow', a ∈ ow ∨ New H a) : Le (hid ow H) (hid ow' H') := fun a o h => by
  obtain ⟨n, q, t⟩ := hid_some h
  refine hid_of (fun m => ?_) (e a o (fun m => n (hf a m)) t q) t
  rcases ho a m with z | z
  · exact n z
  · exact z o t q

/-! ### the law's bag, the tables -/
/-- the bag at b, its cells at c -/
def BagAt (H : Hp) (b c : Addr) : Prop := ∃ (b0 b1 b2 : Int) (cells : List Int), H b = some (.lst [.int b0, .int b1, .int b2, .ref c]) ∧ H c = some (.lst (cells.map V.int)) ∧
  0 ≤ b0 ∧ 0 ≤ b1 ∧ b1 < 2147483648 ∧ 0 ≤ b2 ∧ (∀ n ∈ cells, 0 ≤ n) ∧ cells.length ≤ 63 ∧ b ≠ c
structure Ext where
  bag : Option (Addr × Addr)
  tabs : List (Addr × Str)
  /-- things that stay as they are: function objects, code objects -/
  fns : List (Addr × (Heap → Prop))
  /-- trees that are lent to this def: read, never written -/
  held : Hp := fun _ => none
  /-- what is true of a dict with tuples as keys -/
  nst : Addr → List (PySem.NestedKey × Addr × V) → Heap → Prop := fun _ _ _ => False
def fpB : Option (Addr × Addr) → List Addr
  | none => []
  | some (b, c) => [b, c]
def fp (Z : Ext) : List Addr := fpB Z.bag
def RB : Option (Addr × Addr) → Hp → Prop
  | none, _ => True
  | some (b, c), H => BagAt H b c
def RF (fns : List (Addr × (Heap → Prop))) (H : Hp) : Prop := ∀ p ∈ fns, H p.1 = some (.ext p.2)
structure RZ (Z : Ext) (H : Hp) : Prop where
  bag : RB Z.bag H
  tabs : LamX.Tabs Z.tabs H
  fns : RF Z.fns H
theorem RB.frame {z : Option (Addr × Addr)} {H H' : Hp} (h : RB z H) (e : ∀ a ∈ fpB z, H' a = H a) : RB z H' := by
  cases z with
  | none => exact True.intro
  | some z =>
    obtain ⟨b, c⟩ := z
    obtain ⟨b0, b1, b2, cs, h1, h2, h3⟩ := h
    exact ⟨b0, b1, b2, cs, (e b (by simp [fpB])).trans h1, (e c (by simp [fpB])).trans h2, h3⟩
theorem RZ.there {Z : Ext} {H : Hp} (h : RZ Z H) : ∀ a ∈ fp Z, ∃ o, NT o ∧ H a = some o := by
  obtain ⟨h, _, _⟩ := h
  obtain ⟨z, T, F⟩ := Z
  cases z with
  | none => intro a m; simp [fp, fpB] at m
  | some z =>
    obtain ⟨b, c⟩ := z
    obtain ⟨b0, b1, b2, cs, h1, h2, h3⟩ := h
    intro a m
    simp [fp, fpB] at m
    rcases m with rfl | rfl
    · exact ⟨_, nt_lst, h1⟩
    · exact ⟨_, nt_lst, h2⟩
theorem RZ.le {Z : Ext} {H H' : Hp} (h : RZ Z H) (e : Le H H') : RZ Z H' := ⟨h.bag.frame fun a m => by
  obtain ⟨o, _, q⟩ := h.there a m
  rw [q, e a o q], h.tabs.ext e, fun p m => e _ _ (h.fns p m)⟩
/-- a list is written -/
theorem RZ.upd {Z : Ext} {H : Hp} {p : Addr} {us : List V} {o : HO} (h : RZ Z H) (n : p ∉ fp Z) (e : H p = some (.lst us)) : RZ Z (upd H p o) := by
  refine ⟨h.bag.frame fun a m => upd_ne fun q => n (q ▸ m), fun t ht => ?_, fun p' m => ?_⟩
  rotate_left
  · rw [upd_ne (ne_of (h.fns p' m) e (by intro z; cases z))]
    exact h.fns p' m
  obtain ⟨ps, h1, h2, h3⟩ := h.tabs t ht
  refine ⟨ps, by rw [upd_ne (ne_of h1 e (by intro z; cases z))]; exact h1, h2, fun pos cv hc => ?_⟩
  obtain ⟨c, e1, e2⟩ := h3 pos cv hc
  exact ⟨c, e1, by rw [upd_ne (ne_of e2 e (by intro z; unfold LamX.CodeO at z; cases z))]; exact e2⟩

/-! ### trees: things that may change, each with one owner -/
inductive Md where
  | own | bor | held
inductive Lay where
  | k | t
inductive Tr where
  | d (x : D)
  | own (xs : List D)
  | ls (ts : List Tr)
  | dc (l : Lay) (lk : Bool) (kvs : List (D × Tr))
  | ob (c : Str) (fs : List (Str × Tr))
/-- as it stands while a loop walks it -/
def Lkd (lk : Bool) (u o : HO) : Prop := match lk with
  | false => o = u
  | true => ∃ od, o = .frz od u
theorem Lkd.nt {lk : Bool} {u o : HO} (h : Lkd lk u o) (n : NT u) : NT o := by
  cases lk with
  | false => cases h; exact n
  | true => obtain ⟨od, rfl⟩ := h; exact fun _ z => nomatch z
abbrev Nst := Addr → List (PySem.NestedKey × Addr × V) → Heap → Prop
inductive DtKeys (K : PySem.W.Frag) (Hd : Hp) : List (PySem.NestedKey × Addr × V) → List D → Prop
  | nil : DtKeys K Hd [] []
  | cons {k : PySem.NestedKey} {a : Addr} {v : V} {us : List (PySem.NestedKey × Addr × V)} {ds : List D} : Dt K Hd (.ref a) k.data → DtKeys K Hd us ds → DtKeys K Hd ((k, a, v) :: us) (k.data :: ds)
mutual
/-- the tree t stands at v, its nodes at as; its data in Hd -/
inductive TrAt (K : PySem.W.Frag) (ns : Nst) (Hd H : Hp) : V → Tr → List Addr → Prop
  | d {v : V} {x : D} : Dt K Hd v x → TrAt K ns Hd H v (.d x) []
  | own {p : Addr} {vs : List V} {xs : List D} : H p = some (.lst vs) → DtAll K Hd vs xs → TrAt K ns Hd H (.ref p) (.own xs) [p]
  | ls {p : Addr} {vs : List V} {ts : List Tr} {as : List Addr} : H p = some (.lst vs) → TrAll K ns Hd H vs ts as → TrAt K ns Hd H (.ref p) (.ls ts) (p :: as)
  | dk {p : Addr} {o : HO} {lk : Bool} {us : List (L2.Key × V)} {kvs : List (D × Tr)} {vs : List V} {ts : List Tr} {as : List Addr} : H p = some o → Lkd lk (.dK us) o → us.map (fun e => keyD e.1) = kvs.map (·.1) → (us.map (·.1)).Nodup → us.map (·.2) = vs → kvs.map (·.2) = ts → TrAll K ns Hd H vs ts as → TrAt K ns Hd H (.ref p) (.dc .k lk kvs) (p :: as)
  | dt {p : Addr} {o : HO} {lk : Bool} {us : List (PySem.NestedKey × Addr × V)} {kvs : List (D × Tr)} {vs : List V} {ts : List Tr} {as : List Addr} : H p = some o → Lkd lk (.ext (ns p us)) o → DtKeys K Hd us (kvs.map (·.1)) → (us.map (·.1)).Nodup → us.map (·.2.2) = vs → kvs.map (·.2) = ts → TrAll K ns Hd H vs ts as → TrAt K ns Hd H (.ref p) (.dc .t lk kvs) (p :: as)
  | ob {p C dx : Addr} {c : Str} {fs : List (Str × V)} {gs : List (Str × Tr)} {vs : List V} {ts : List Tr} {as : List Addr} : H p = some (.ins C dx fs) → H dx = some (.own p) → PySem.W.nsIn K PySem.mainGlobals c = some (some (.ref C)) → fs.map (·.1) = gs.map (·.1) → (fs.map (·.1)).Nodup → fs.map (·.2) = vs → gs.map (·.2) = ts → TrAll K ns Hd H vs ts as → TrAt K ns Hd H (.ref p) (.ob c gs) (p :: dx :: as)
inductive TrAll (K : PySem.W.Frag) (ns : Nst) (Hd H : Hp) : List V → List Tr → List Addr → Prop
  | nil : TrAll K ns Hd H [] [] []
  | cons {v : V} {vs : List V} {t : Tr} {ts : List Tr} {as bs : List Addr} : TrAt K ns Hd H v t as → TrAll K ns Hd H vs ts bs → TrAll K ns Hd H (v :: vs) (t :: ts) (as ++ bs)
end
theorem DtKeys.mono {K : PySem.W.Frag} {H H' : Hp} (e : Le H H') : ∀ {us : List (PySem.NestedKey × Addr × V)} {ds : List D}, DtKeys K H us ds → DtKeys K H' us ds
  | _, _, .nil => .nil
  | _, _, .cons h t => .cons (Dt.mono e h) (DtKeys.mono e t)
theorem nt_ins {C dx : Addr} {fs : List (Str × V)} : NT (.ins C dx fs) := fun _ z => nomatch z
theorem nt_own {p : Addr} : NT (.own p) := fun _ z => nomatch z
theorem nt_dKs {us : List (L2.Key × V)} : NT (.dK us) := fun _ z => nomatch z
theorem nt_ext {φ : Heap → Prop} : NT (.ext φ) := fun _ z => nomatch z
/-- on as H' is as H -/
def Agree (as : List Addr) (H H' : Hp) : Prop := ∀ a ∈ as, ∀ o, NT o → H a = some o → H' a = some o
theorem TrAt.mono {K : PySem.W.Frag} {ns : Nst} {Hd Hd' H H' : Hp} (e : Le Hd Hd') {v : V} {t : Tr} {as : List Addr} (h : TrAt K ns Hd H v t as) (g : Agree as H H') : TrAt K ns Hd' H' v t as :=
  TrAt.rec (motive_1 := fun v t as _ => Agree as H H' → TrAt K ns Hd' H' v t as) (motive_2 := fun vs ts as _ => Agree as H H' → TrAll K ns Hd' H' vs ts as)
    (fun h _ => .d (Dt.mono e h)) (fun h t g => .own (g _ List.mem_cons_self _ nt_lst h) (DtAll.mono e t)) (fun h _ i g => .ls (g _ List.mem_cons_self _ nt_lst h) (i fun a m => g a (List.mem_cons_of_mem _ m)))
    (fun h l k n e1 e2 _ i g => .dk (g _ List.mem_cons_self _ (l.nt nt_dKs) h) l k n e1 e2 (i fun a m => g a (List.mem_cons_of_mem _ m)))
    (fun h l k n e1 e2 _ i g => .dt (g _ List.mem_cons_self _ (l.nt nt_ext) h) l (k.mono e) n e1 e2 (i fun a m => g a (List.mem_cons_of_mem _ m)))
    (fun h d c k n e1 e2 _ i g => .ob (g _ List.mem_cons_self _ nt_ins h) (g _ (List.mem_cons_of_mem _ List.mem_cons_self) _ nt_own d) c k n e1 e2 (i fun a m => g a (List.mem_cons_of_mem _ (List.mem_cons_of_mem _ m))))
    (fun _ => .nil) (fun _ _ i j g => .cons (i fun a m => g a (List.mem_append_left _ m)) (j fun a m => g a (List.mem_append_right _ m))) h g
theorem TrAll.mono {K : PySem.W.Frag} {ns : Nst} {Hd Hd' H H' : Hp} (e : Le Hd Hd') : ∀ {vs : List V} {ts : List Tr} {as : List Addr}, TrAll K ns Hd H vs ts as → Agree as H H' → TrAll K ns Hd' H' vs ts as
  | _, _, _, .nil, _ => .nil
  | _, _, _, .cons h t, g => .cons (TrAt.mono e h fun a m => g a (List.mem_append_left _ m)) (TrAll.mono e t fun a m => g a (List.mem_append_right _ m))
mutual
/-- each node stands -/
theorem TrAt.there {K : PySem.W.Frag} {ns : Nst} {Hd H : Hp} : ∀ {v : V} {t : Tr} {as : List Addr}, TrAt K ns Hd H v t as → ∀ a ∈ as, ∃ o, NT o ∧ H a = some o
  | _, _, _, .d h, a, m => by cases m
  | _, _, _, .own h t, a, m => by rw [List.mem_singleton.mp m]; exact ⟨_, nt_lst, h⟩
  | _, _, _, .ls h t, a, m => by
    rcases List.mem_cons.mp m with rfl | m
    · exact ⟨_, nt_lst, h⟩
    · exact TrAll.there t a m
  | _, _, _, .dk h l k n e1 e2 t, a, m => by
    rcases List.mem_cons.mp m with rfl | m
    · exact ⟨_, l.nt (by first | exact nt_dKs | exact nt_ext), h⟩
    · exact TrAll.there t a m
  | _, _, _, .dt h l k n e1 e2 t, a, m => by
    rcases List.mem_cons.mp m with rfl | m
    · exact ⟨_, l.nt (by first | exact nt_dKs | exact nt_ext), h⟩
    · exact TrAll.there t a m
  | _, _, _, .ob h d c k n e1 e2 t, a, m => by
    rcases List.mem_cons.mp m with rfl | m
    · exact ⟨_, nt_ins, h⟩
    · rcases List.mem_cons.mp m with rfl | m
      · exact ⟨_, nt_own, d⟩
      · exact TrAll.there t a m
theorem TrAll.there {K : PySem.W.Frag} {ns : Nst} {Hd H : Hp} : ∀ {vs : List V} {ts : List Tr} {as : List Addr}, TrAll K ns Hd H vs ts as → ∀ a ∈ as, ∃ o, NT o ∧ H a = some o
  | _, _, _, .nil, a, m => by cases m
  | _, _, _, .cons h t, a, m => by
    rcases List.mem_append.mp m with m | m
    · exact TrAt.there h a m
    · exact TrAll.there t a m
end

/-! ### values -/
/-- a callable of one argument: what it tells of data, by a predicate transformer -/
abbrev Fn1 := D → (D → Prop) → Prop
inductive Val where
  | d (x : D)
  | own (xs : List D)
  | bor (xs : List D)
  | bag
  | fn (f : Addr) (φ : Fn1)
  | tr (m : Md) (t : Tr)
/-- as data, to be read -/
def Val.rd : Val → Option D
  | .d x => some x
  | .own xs => some (.list xs)
  | .bor xs => some (.list xs)
  | .tr _ (.own xs) => some (.list xs)
  | .tr _ (.d x) => some x
  | _ => none
/-- as data, to be kept -/
def Val.kp : Val → Option D
  | .d x => some x
  | .own xs => some (.list xs)
  | _ => none
abbrev Ev := List (Option Val)
structure Xn where
  cls : Str
  args : List (Str × D)

/-- what calls of the value at f tell; CL stands for the callables that are known -/
abbrev Calls := Addr → Fn1 → Prop

/-- v is y in H; H0: the heap at the expression's beginning; ow: the owned lists -/
def RV (CL : Calls) (Z : Ext) (K : PySem.W.Frag) (ow : List Addr) (H0 H : Hp) (v : V) : Val → Prop
  | .d x => Dt K (hid ow H) v x
  | .own xs => ∃ p vs, v = .ref p ∧ New H0 p ∧ p ∉ ow ∧ H p = some (.lst vs) ∧ DtAll K (hid (p :: ow) H) vs xs
  | .bor xs => ∃ p vs, v = .ref p ∧ p ∈ ow ∧ p ∉ fp Z ∧ H p = some (.lst vs) ∧ DtAll K (hid ow H) vs xs
  | .bag => ∃ b c, Z.bag = some (b, c) ∧ v = .ref b
  | .fn f φ => v = .ref f ∧ CL f φ
  | .tr .own t => ∃ as, TrAt K Z.nst (hid (as ++ ow) H) H v t as ∧ as.Nodup ∧ ∀ a ∈ as, New H0 a ∧ a ∉ ow
  | .tr .bor t => ∃ as, TrAt K Z.nst (hid ow H) H v t as ∧ ∀ a ∈ as, a ∈ ow ∧ a ∉ fp Z
  | .tr .held t => ∃ as, TrAt K Z.nst (hid ow H) Z.held v t as ∧ ∀ a ∈ as, a ∉ fp Z ∧ ∀ o, Z.held a = some o → NT o ∧ H a = some o
theorem hid_tail {p : Addr} {ow : List Addr} {H : Hp} : Le (hid (p :: ow) H) (hid ow H) := fun a o h => by
  obtain ⟨n, q, t⟩ := hid_some h
  exact hid_of (fun m => n (List.mem_cons_of_mem _ m)) q t
theorem hid_less {a b : List Addr} {H : Hp} (h : ∀ x ∈ b, x ∈ a) : Le (hid a H) (hid b H) := fun x o q => by
  obtain ⟨m, q, t⟩ := hid_some q
  exact hid_of (fun z => m (h x z)) q t
/-- a tree that is told, as it stands -/
theorem RV.tree {CL : Calls} {Z : Ext} {K : PySem.W.Frag} {ow : List Addr} {H0 H : Hp} {v : V} {m : Md} {t : Tr} (h : RV CL Z K ow H0 H v (.tr m t)) : ∃ as, TrAt K Z.nst (hid ow H) H v t as := by
  cases m with
  | own =>
    obtain ⟨as, h, _⟩ := h
    exact ⟨as, h.mono (hid_less fun a m => List.mem_append_right _ m) fun _ _ _ _ q => q⟩
  | bor =>
    obtain ⟨as, h, _⟩ := h
    exact ⟨as, h⟩
  | held =>
    obtain ⟨as, h, g⟩ := h
    exact ⟨as, h.mono (fun _ _ q => q) fun a m o _ q => ((g a m).2 o q).2⟩
/-- read as data -/
theorem RV.rd {CL : Calls} {Z : Ext} {K : PySem.W.Frag} {ow : List Addr} {H0 H : Hp} {v : V} {y : Val} {d : D} (h : RV CL Z K ow H0 H v y) (e : y.rd = some d) : Dt K H v d := by
  cases y with
  | d x => cases e; exact Dt.mono hid_le h
  | own xs =>
    cases e
    obtain ⟨p, vs, rfl, _, _, hp, ha⟩ := h
    exact .lst hp (DtAll.mono hid_le ha)
  | bor xs =>
    cases e
    obtain ⟨p, vs, rfl, _, _, hp, ha⟩ := h
    exact .lst hp (DtAll.mono hid_le ha)
  | bag => cases e
  | fn f φ => cases e
  | tr m t =>
    obtain ⟨as, h⟩ := h.tree
    cases t with
    | own xs =>
      cases e
      cases h with
      | own h1 h2 => exact .lst h1 (DtAll.mono hid_le h2)
    | d x =>
      cases e
      cases h with
      | d h => exact Dt.mono hid_le h
    | ls ts => cases e
    | dc l lk kvs => cases e
    | ob c fs => cases e
/-- kept as data -/
theorem RV.kp {CL : Calls} {Z : Ext} {K : PySem.W.Frag} {ow : List Addr} {H0 H : Hp} {v : V} {y : Val} {d : D} (h : RV CL Z K ow H0 H v y) (e : y.kp = some d) : Dt K (hid ow H) v d := by
  cases y with
  | d x => cases e; exact h
  | own xs =>
    cases e
    obtain ⟨p, vs, rfl, _, n, hp, ha⟩ := h
    exact .lst (hid_of n hp nt_lst) (DtAll.mono hid_tail ha)
  | bor xs => cases e
  | bag => cases e
  | fn f φ => cases e
  | tr m t => cases e
/-- it stays -/
theorem RV.stay {CL : Calls} {Z : Ext} {K : PySem.W.Frag} {ow : List Addr} {H0 H H' : Hp} {v : V} {y : Val} (h : RV CL Z K ow H0 H v y) (e : SameBut (fp Z) H H') (hf : ∀ a ∈ fp Z, a ∈ ow) : RV CL Z K ow H0 H' v y := by
  have m : Le (hid ow H) (hid ow H') := hid_mono e hf fun a h => .inl h
  cases y with
  | d x => exact Dt.mono m h
  | own xs =>
    obtain ⟨p, vs, rfl, h0, n, hp, ha⟩ := h
    exact ⟨p, vs, rfl, h0, n, e p _ (fun z => n (hf p z)) nt_lst hp, DtAll.mono (hid_mono e (fun a h => List.mem_cons_of_mem _ (hf a h)) fun a h => .inl h) ha⟩
  | bor xs =>
    obtain ⟨p, vs, rfl, n, z, hp, ha⟩ := h
    exact ⟨p, vs, rfl, n, z, e p _ z nt_lst hp, DtAll.mono m ha⟩
  | bag => exact h
  | fn f φ => exact h
  | tr md t =>
    cases md with
    | own =>
      obtain ⟨as, h1, h2, h3⟩ := h
      exact ⟨as, h1.mono (hid_mono e (fun a h => List.mem_append_right _ (hf a h)) fun a h => .inl h) fun a q o n z => e a o (fun z => (h3 a q).2 (hf a z)) n z, h2, h3⟩
    | bor =>
      obtain ⟨as, h1, h2⟩ := h
      exact ⟨as, h1.mono m fun a q o n z => e a o (h2 a q).2 n z, h2⟩
    | held =>
      obtain ⟨as, h1, h2⟩ := h
      exact ⟨as, h1.mono m fun a q o n z => z, fun a q => ⟨(h2 a q).1, fun o z => ⟨((h2 a q).2 o z).1, e a o (h2 a q).1 ((h2 a q).2 o z).1 ((h2 a q).2 o z).2⟩⟩⟩
end Pd

/-! Pd2: what a statement's run means over data: the relation, the judgements, names, operators. -/
namespace Pd
open PySem PySem.Spec PyProof.Rows L2

/-- the ground of a heap: the bag, the owned addresses -/
structure Gr (Z : Ext) (ow : List Addr) (H : Hp) : Prop where
  ext : RZ Z H
  fpo : ∀ a ∈ fp Z, a ∈ ow
  isS : ∀ a ∈ ow, ∃ o, NT o ∧ H a = some o
theorem Gr.step {Z : Ext} {ow : List Addr} {H H' : Hp} (g : Gr Z ow H) (e : SameBut (fp Z) H H') (r : RZ Z H') : Gr Z ow H' := ⟨r, g.fpo, fun a m => by
  by_cases z : a ∈ fp Z
  · exact r.there a z
  · obtain ⟨o, t, q⟩ := g.isS a m
    exact ⟨o, t, e a o z t q⟩⟩
theorem Gr.no {Z : Ext} {ow : List Addr} {H : Hp} (g : Gr Z ow H) {a : Addr} (h : New H a) : a ∉ ow := fun m => by
  obtain ⟨o, t, q⟩ := g.isS a m
  exact h o t q

section
variable (CL : Calls) (Z : Ext) (K : PySem.W.Frag) (ow : List Addr)
/-- what is wanted of each value that P tells -/
def Gd (H0 : Hp) (P : Val → Prop) (Q : VK) : Prop := ∀ y v H', P y → SameBut (fp Z) H0 H' → RZ Z H' → RV CL Z K ow H0 H' v y → Q v H'
/-- an exception as it lies -/
def ExR (mg : Str → Option Value) (x : Xn) (cls : Value) (d : Option Addr) (H : Hp) : Prop :=
  (∃ C, mg x.cls = some (.ref C) ∧ cls = .ref C) ∧ (x.args ≠ [] → ∃ dx fs, d = some dx ∧ H dx = some (.xd fs) ∧ fs.map (·.1) = x.args.map (·.1) ∧ DtAll K (hid ow H) (fs.map (·.2)) (x.args.map (·.2)))
def Bd (mg : Str → Option Value) (W : WX) (σ : L2.St) (H0 : Hp) (Ex : Xn → Prop) : Prop := ∀ x cls d H', Ex x → ExR K ow mg x cls d H' → SameBut (fp Z) H0 H' → RZ Z H' → W cls d σ H'
end
section
variable {CL : Calls} {Z : Ext} {K : PySem.W.Frag} {ow : List Addr} {H0 H1 : Hp}
theorem RV.back {H : Hp} {v : V} {y : Val} (h : RV CL Z K ow H1 H v y) (e : SameBut (fp Z) H0 H1) (hf : ∀ a ∈ fp Z, a ∈ ow) : RV CL Z K ow H0 H v y := by
  cases y with
  | own xs =>
    obtain ⟨p, vs, rfl, h0, n, hp, ha⟩ := h
    exact ⟨p, vs, rfl, e.free (fun z => n (hf p z)) h0, n, hp, ha⟩
  | d x => exact h
  | bor xs => exact h
  | bag => exact h
  | fn f φ => exact h
  | tr md t =>
    cases md with
    | own =>
      obtain ⟨as, h1, h2, h3⟩ := h
      exact ⟨as, h1, h2, fun a m => ⟨e.free (fun z => (h3 a m).2 (hf a z)) (h3 a m).1, (h3 a m).2⟩⟩
    | bor => exact h
    | held => exact h
theorem Gd.step {P : Val → Prop} {Q : VK} (g : Gd CL Z K ow H0 P Q) (e : SameBut (fp Z) H0 H1) (hf : ∀ a ∈ fp Z, a ∈ ow) : Gd CL Z K ow H1 P Q :=
  fun y v H' p s r h => g y v H' p (e.trans s) r (h.back e hf)
theorem Bd.step {mg : Str → Option Value} {W : WX} {σ : L2.St} {Ex : Xn → Prop} (g : Bd Z K ow mg W σ H0 Ex) (e : SameBut (fp Z) H0 H1) : Bd Z K ow mg W σ H1 Ex :=
  fun x cls d H' p r s z => g x cls d H' p r (e.trans s) z
theorem Gd.dat {P : Val → Prop} {Q : VK} (g : Gd CL Z K ow H0 P Q) {x : D} {v : V} {H' : Hp} (p : P (.d x)) (e : Le H0 H') (r : RZ Z H0) (h : Dt K (hid ow H') v x) : Q v H' :=
  g (.d x) v H' p (.of_le e) (r.le e) h
/-- a scalar, the heap as it is -/
theorem Gd.sc {P : Val → Prop} {Q : VK} (g : Gd CL Z K ow H0 P Q) {x : D} {v : V} (p : P (.d x)) (r : RZ Z H0) (h : ∀ H, Dt K H v x) : Q v H0 :=
  g (.d x) v H0 p (.refl _ _) r (h _)
/-- a new tuple -/
theorem Gd.tup {P : Val → Prop} {Q : VK} (g : Gd CL Z K ow H0 P Q) {xs : List D} {vs : List V} {a : Addr} (p : P (.d (.tuple xs))) (gr : Gr Z ow H0) (n : H0 a = none) (h : DtAll K (hid ow H0) vs xs) : Q (.ref a) (upd H0 a (.tup vs)) := by
  refine g.dat p (Le.new n) gr.ext (.tup (.inl (.of (hid_of (gr.no (.of n)) upd_same nt_tup))) (DtAll.mono (fun b o e => ?_) h))
  obtain ⟨m, q, t⟩ := hid_some e
  exact hid_of m (Le.new n b o q) t
/-- a new list -/
theorem Gd.lst {P : Val → Prop} {Q : VK} (g : Gd CL Z K ow H0 P Q) {xs : List D} {vs : List V} {a : Addr} (p : P (.own xs)) (gr : Gr Z ow H0) (n : H0 a = none) (h : DtAll K (hid ow H0) vs xs) : Q (.ref a) (upd H0 a (.lst vs)) := by
  refine g (.own xs) _ _ p (.of_le (Le.new n)) (gr.ext.le (Le.new n)) ⟨a, vs, rfl, .of n, gr.no (.of n), upd_same, DtAll.mono (fun b o e => ?_) h⟩
  obtain ⟨m, q, t⟩ := hid_some e
  refine hid_of (fun z => ?_) (Le.new n b o q) t
  rcases List.mem_cons.mp z with rfl | z
  · rw [n] at q; cases q
  · exact m z
end

/-! ### the environment -/
/-- a slot's value, with what it owns; Hb: the heap at the def's entry -/
def SVF (CL : Calls) (Z : Ext) (K : PySem.W.Frag) (ow : List Addr) (Hb H : Hp) (v : V) : Val → List Addr → Prop
  | .d x, as => as = [] ∧ Dt K (hid ow H) v x
  | .own xs, as => ∃ p vs, v = .ref p ∧ as = [p] ∧ New Hb p ∧ p ∈ ow ∧ p ∉ fp Z ∧ H p = some (.lst vs) ∧ DtAll K (hid ow H) vs xs
  | .bor xs, _ => False
  | .bag, as => as = [] ∧ ∃ b c, Z.bag = some (b, c) ∧ v = .ref b
  | .fn f φ, as => as = [] ∧ v = .ref f ∧ CL f φ
  | .tr .own t, as => TrAt K Z.nst (hid ow H) H v t as ∧ as.Nodup ∧ ∀ a ∈ as, New Hb a ∧ a ∈ ow ∧ a ∉ fp Z
  | .tr .bor _, _ => False
  | .tr .held t, as => as = [] ∧ ∃ bs, TrAt K Z.nst (hid ow H) Z.held v t bs
def SV (CL : Calls) (Z : Ext) (K : PySem.W.Frag) (ow : List Addr) (Hb H : Hp) (v : V) : Val → Prop
  | .d x => Dt K (hid ow H) v x
  | .own xs => ∃ p vs, v = .ref p ∧ New Hb p ∧ p ∈ ow ∧ p ∉ fp Z ∧ H p = some (.lst vs) ∧ DtAll K (hid ow H) vs xs
  | .bor xs => False
  | .bag => ∃ b c, Z.bag = some (b, c) ∧ v = .ref b
  | .fn f φ => v = .ref f ∧ CL f φ
  | .tr m t => ∃ as, SVF CL Z K ow Hb H v (.tr m t) as
section
variable {CL : Calls} {Z : Ext} {K : PySem.W.Frag} {ow ow' : List Addr} {Hb H H' : Hp} {v : V} {y : Val} {as : List Addr}
theorem SVF.sv (h : SVF CL Z K ow Hb H v y as) : SV CL Z K ow Hb H v y := by
  cases y with
  | d x => exact h.2
  | own xs =>
    obtain ⟨p, vs, e, _, h⟩ := h
    exact ⟨p, vs, e, h⟩
  | bor xs => exact h
  | bag => exact h.2
  | fn f φ => exact h.2
  | tr m t => exact ⟨as, h⟩
theorem SV.f (h : SV CL Z K ow Hb H v y) : ∃ as, SVF CL Z K ow Hb H v y as := by
  cases y with
  | d x => exact ⟨[], rfl, h⟩
  | own xs =>
    obtain ⟨p, vs, e, h⟩ := h
    exact ⟨[p], p, vs, e, rfl, h⟩
  | bor xs => exact h.elim
  | bag => exact ⟨[], rfl, h⟩
  | fn f φ => exact ⟨[], rfl, h⟩
  | tr m t => exact h
theorem SVF.in_ (h : SVF CL Z K ow Hb H v y as) : ∀ a ∈ as, New Hb a ∧ a ∈ ow ∧ a ∉ fp Z := by
  have no : as = [] → ∀ a ∈ as, New Hb a ∧ a ∈ ow ∧ a ∉ fp Z := fun e a m => by rw [e] at m; cases m
  cases y with
  | d x => exact no h.1
  | own xs =>
    obtain ⟨p, vs, e, rfl, h1, h2, h3, _⟩ := h
    intro a m
    rw [List.mem_singleton.mp m]
    exact ⟨h1, h2, h3⟩
  | bor xs => exact h.elim
  | bag => exact no h.1
  | fn f φ => exact no h.1
  | tr m t =>
    cases m with
    | own => exact h.2.2
    | bor => exact h.elim
    | held => exact no h.1
theorem SVF.mono (h : SVF CL Z K ow Hb H v y as) (ag : Agree as H H') (g : Le (hid ow H) (hid ow' H')) (sub : ∀ a ∈ as, a ∈ ow') : SVF CL Z K ow' Hb H' v y as := by
  cases y with
  | d x => exact ⟨h.1, Dt.mono g h.2⟩
  | own xs =>
    obtain ⟨p, vs, e, rfl, h1, h2, h3, h4, h5⟩ := h
    exact ⟨p, vs, e, rfl, h1, sub p List.mem_cons_self, h3, ag p List.mem_cons_self _ nt_lst h4, DtAll.mono g h5⟩
  | bor xs => exact h
  | bag => exact h
  | fn f φ => exact h
  | tr m t =>
    cases m with
    | own => exact ⟨h.1.mono g ag, h.2.1, fun a m => ⟨(h.2.2 a m).1, sub a m, (h.2.2 a m).2.2⟩⟩
    | bor => exact h
    | held =>
      obtain ⟨e, bs, h⟩ := h
      exact ⟨e, bs, h.mono g fun _ _ _ _ q => q⟩
theorem SameBut.agree (e : SameBut (fp Z) H H') (n : ∀ a ∈ as, a ∉ fp Z) : Agree as H H' := fun a m o t q => e a o (n a m) t q
theorem SVF.stay (h : SVF CL Z K ow Hb H v y as) (e : SameBut (fp Z) H H') (hf : ∀ a ∈ fp Z, a ∈ ow) : SVF CL Z K ow Hb H' v y as :=
  h.mono (e.agree fun a m => (h.in_ a m).2.2) (hid_mono e hf fun a h => .inl h) fun a m => (h.in_ a m).2.1
theorem SV.stay (h : SV CL Z K ow Hb H v y) (e : SameBut (fp Z) H H') (hf : ∀ a ∈ fp Z, a ∈ ow) : SV CL Z K ow Hb H' v y := by
  obtain ⟨as, h⟩ := h.f
  exact (h.stay e hf).sv
end

/-- what the slots own -/
structure Slots (CL : Calls) (Z : Ext) (K : PySem.W.Frag) (ow : List Addr) (Hb H : Hp) (ρ : Ev) (σ : L2.St) (F : Nat → List Addr) : Prop where
  at_ : ∀ (i : Nat) (y : Val), ρ[i]? = some (some y) → ∃ v, σ[i]? = some (some v) ∧ SVF CL Z K ow Hb H v y (F i)
  dis : ∀ (i j : Nat) (a : Addr), i ≠ j → a ∈ F i → a ∉ F j
  nil : ∀ (i : Nat), (∀ y, ρ[i]? ≠ some (some y)) → F i = []
/-- ow0: what was owned at the def's entry -/
structure Rel (CL : Calls) (Z : Ext) (K : PySem.W.Frag) (ow0 : List Addr) (Hb : Hp) (S : Hp) (ρ : Ev) (σ : L2.St) (H : Hp) (ow : List Addr) : Prop where
  gr : Gr Z ow H
  len : σ.length = ρ.length
  sb : SameBut (fp Z) Hb H
  sub : ∀ a ∈ ow0, a ∈ ow
  mark : Le S (hid ow H)
  held : ∀ a o, Z.held a = some o → NT o ∧ Hb a = some o ∧ a ∉ fp Z
  own : ∃ F : Nat → List Addr, Slots CL Z K ow Hb H ρ σ F
section
variable {CL : Calls} {Z : Ext} {K : PySem.W.Frag} {ow0 ow ow' : List Addr} {Hb S S' H H' : Hp} {ρ ρ' : Ev} {σ σ' : L2.St} {F : Nat → List Addr}
theorem getSet {α : Type} {l : List α} {i j : Nat} {a b : α} (h : (l.set i a)[j]? = some b) : (j = i ∧ b = a ∧ i < l.length) ∨ (j ≠ i ∧ l[j]? = some b) := by
  by_cases e : j = i
  · subst e
    by_cases hl : j < l.length
    · rw [List.getElem?_set_self hl] at h
      exact .inl ⟨rfl, (Option.some.inj h).symm, hl⟩
    · rw [List.getElem?_eq_none (by simpa using hl)] at h; cases h
  · rw [List.getElem?_set_ne (Ne.symm e)] at h
    exact .inr ⟨e, h⟩
theorem known (ρ : Ev) (i : Nat) : (∃ y, ρ[i]? = some (some y)) ∨ ∀ y, ρ[i]? ≠ some (some y) := by
  rcases e : ρ[i]? with _ | _ | z
  · exact .inr fun y z => nomatch z
  · exact .inr fun y z => nomatch z
  · exact .inl ⟨z, rfl⟩
theorem Slots.in_ (f : Slots CL Z K ow Hb H ρ σ F) (i : Nat) : ∀ a ∈ F i, New Hb a ∧ a ∈ ow ∧ a ∉ fp Z := by
  rcases known ρ i with ⟨y, e⟩ | n
  · obtain ⟨v, _, h⟩ := f.at_ i y e
    exact h.in_
  · rw [f.nil i n]
    intro a m
    cases m
/-- the slots, or fewer, in another heap -/
theorem Slots.keep (f : Slots CL Z K ow Hb H ρ σ F) (h : ∀ (i : Nat) (y : Val), ρ'[i]? = some (some y) → ρ[i]? = some (some y) ∧ σ'[i]? = σ[i]?)
    (k : ∀ (i : Nat) (y : Val) (v : V), ρ'[i]? = some (some y) → σ[i]? = some (some v) → SVF CL Z K ow Hb H v y (F i) → SVF CL Z K ow' Hb H' v y (F i)) : ∃ G, Slots CL Z K ow' Hb H' ρ' σ' G ∧ ∀ i, ∀ a ∈ G i, a ∈ F i := by
  let G : Nat → List Addr := fun j => match ρ'[j]? with
    | some (some _) => F j
    | _ => []
  have g1 : ∀ j y, ρ'[j]? = some (some y) → G j = F j := fun j y e => by
    show (match ρ'[j]? with
      | some (some _) => F j
      | _ => []) = _
    rw [e]
  have g2 : ∀ j, (∀ y, ρ'[j]? ≠ some (some y)) → G j = [] := fun j n => by
    show (match ρ'[j]? with
      | some (some _) => F j
      | _ => []) = _
    split
    · rename_i y e
      exact absurd e (n y)
    · rfl
  have g3 : ∀ j, ∀ a ∈ G j, a ∈ F j := fun j a m => by
    rcases known ρ' j with ⟨y, e⟩ | n
    · rw [g1 j y e] at m; exact m
    · rw [g2 j n] at m; cases m
  refine ⟨G, ⟨fun i y e => ?_, fun i j a n m1 m2 => f.dis i j a n (g3 i a m1) (g3 j a m2), g2⟩, g3⟩
  obtain ⟨h1, h2⟩ := h i y e
  obtain ⟨v, v1, v2⟩ := f.at_ i y h1
  rw [g1 i y e]
  exact ⟨v, h2.trans v1, k i y v e v1 v2⟩
theorem Rel.val (r : Rel CL Z K ow0 Hb S ρ σ H ow) (i : Nat) (y : Val) (h : ρ[i]? = some (some y)) : ∃ v, σ[i]? = some (some v) ∧ SV CL Z K ow Hb H v y := by
  obtain ⟨F, f⟩ := r.own
  obtain ⟨v, h1, h2⟩ := f.at_ i y h
  exact ⟨v, h1, h2.sv⟩
theorem Rel.sep (r : Rel CL Z K ow0 Hb S ρ σ H ow) (i j : Nat) (xs ys : List D) (p : Addr) (n : i ≠ j) (e1 : ρ[i]? = some (some (.own xs))) (e2 : ρ[j]? = some (some (.own ys))) (s1 : σ[i]? = some (some (V.ref p))) (s2 : σ[j]? = some (some (V.ref p))) : False := by
  obtain ⟨F, f⟩ := r.own
  obtain ⟨v, h1, q, vs, rfl, ea, _⟩ := f.at_ i _ e1
  obtain ⟨u, g1, q', us, rfl, eb, _⟩ := f.at_ j _ e2
  rw [s1] at h1
  cases h1
  rw [s2] at g1
  cases g1
  exact f.dis i j p n (by rw [ea]; exact List.mem_cons_self) (by rw [eb]; exact List.mem_cons_self)
/-- what a held tree's nodes are now -/
theorem Rel.hold (r : Rel CL Z K ow0 Hb S ρ σ H ow) {a : Addr} {o : HO} (h : Z.held a = some o) : H a = some o := by
  obtain ⟨h1, h2, h3⟩ := r.held a o h
  exact r.sb a o h3 h1 h2
/-- the slots (some of them) as they are; the heap otherwise -/
theorem Rel.keep (r : Rel CL Z K ow0 Hb S ρ σ H ow) (gr : Gr Z ow' H') (len : σ'.length = ρ'.length) (sb : SameBut (fp Z) Hb H') (sub : ∀ a ∈ ow0, a ∈ ow') (mark : Le S' (hid ow' H'))
    (h : ∀ (i : Nat) (y : Val), ρ'[i]? = some (some y) → ρ[i]? = some (some y) ∧ σ'[i]? = σ[i]?)
    (k : ∀ (i : Nat) (y : Val) (v : V) (as : List Addr), ρ'[i]? = some (some y) → σ[i]? = some (some v) → SVF CL Z K ow Hb H v y as → SVF CL Z K ow' Hb H' v y as) : Rel CL Z K ow0 Hb S' ρ' σ' H' ow' := by
  obtain ⟨F, f⟩ := r.own
  obtain ⟨G, g, _⟩ := f.keep h fun i y v e s q => k i y v _ e s q
  exact ⟨gr, len, sb, sub, mark, r.held, G, g⟩
theorem Rel.step (r : Rel CL Z K ow0 Hb S ρ σ H ow) (e : SameBut (fp Z) H H') (z : RZ Z H') : Rel CL Z K ow0 Hb S ρ σ H' ow :=
  r.keep (r.gr.step e z) r.len (r.sb.trans e) r.sub (r.mark.trans (hid_mono e r.gr.fpo fun _ m => .inl m)) (fun i y h => ⟨h, rfl⟩) fun i y v as _ _ h => h.stay e r.gr.fpo
/-- fewer slots are known -/
theorem Rel.weak (r : Rel CL Z K ow0 Hb S ρ σ H ow) (hl : σ'.length = ρ'.length) (h : ∀ (i : Nat) (y : Val), ρ'[i]? = some (some y) → ρ[i]? = some (some y) ∧ σ'[i]? = σ[i]?) : Rel CL Z K ow0 Hb S ρ' σ' H ow :=
  r.keep r.gr hl r.sb r.sub r.mark h fun _ _ _ _ _ _ q => q
theorem Rel.remark (r : Rel CL Z K ow0 Hb S ρ σ H ow) (h : Le S' (hid ow H)) : Rel CL Z K ow0 Hb S' ρ σ H ow :=
  r.keep r.gr r.len r.sb r.sub h (fun i y h => ⟨h, rfl⟩) fun _ _ _ _ _ _ q => q
theorem Slots.set (f : Slots CL Z K ow Hb H ρ σ F) (len : σ.length = ρ.length) {i : Nat} {v : V} {y : Val} {as : List Addr} (h : SVF CL Z K ow Hb H v y as) (ap : ∀ (j : Nat), j ≠ i → ∀ a ∈ as, a ∉ F j) :
    ∃ G, Slots CL Z K ow Hb H (ρ.set i (some y)) (σ.set i (some v)) G ∧ ∀ j, ∀ a ∈ G j, a ∈ as ∨ a ∈ F j := by
  by_cases hl : i < ρ.length
  · refine ⟨fun j => if j = i then as else F j, ⟨fun j z e => ?_, fun j k a n m1 m2 => ?_, fun j n => ?_⟩, fun j a m => ?_⟩
    · rcases getSet e with ⟨rfl, e1, hl⟩ | ⟨n, e1⟩
      · cases e1
        rw [if_pos rfl]
        exact ⟨v, by rw [List.getElem?_set_self (by rw [len]; exact hl)], h⟩
      · obtain ⟨u, u1, u2⟩ := f.at_ j z e1
        rw [if_neg n]
        exact ⟨u, by rw [List.getElem?_set_ne (Ne.symm n)]; exact u1, u2⟩
    · by_cases hj : j = i
      · rw [if_pos hj] at m1
        rw [if_neg fun e => n (hj.trans e.symm)] at m2
        exact ap k (fun e => n (hj.trans e.symm)) a m1 m2
      · rw [if_neg hj] at m1
        by_cases hk : k = i
        · rw [if_pos hk] at m2
          exact ap j hj a m2 m1
        · rw [if_neg hk] at m2
          exact f.dis j k a n m1 m2
    · by_cases hj : j = i
      · subst hj
        exact absurd (List.getElem?_set_self hl) (n y)
      · rw [if_neg hj]
        exact f.nil j fun z e => n z (by rw [List.getElem?_set_ne (Ne.symm hj)]; exact e)
    · have m : a ∈ (if j = i then as else F j) := m
      by_cases hj : j = i
      · rw [if_pos hj] at m; exact .inl m
      · rw [if_neg hj] at m; exact .inr m
  · rw [List.set_eq_of_length_le (by omega), List.set_eq_of_length_le (by rw [len]; omega)]
    exact ⟨F, f, fun _ _ m => .inr m⟩
/-- in another heap -/
theorem Slots.mono (f : Slots CL Z K ow Hb H ρ σ F) (ag : ∀ i, Agree (F i) H H') (g : Le (hid ow H) (hid ow' H')) (sub : ∀ i, ∀ a ∈ F i, a ∈ ow') : Slots CL Z K ow' Hb H' ρ σ F := ⟨fun i y e => by
  obtain ⟨v, h1, h2⟩ := f.at_ i y e
  exact ⟨v, h1, h2.mono (ag i) g (sub i)⟩, f.dis, f.nil⟩
/-- a slot takes what stands -/
theorem Rel.slotF (r : Rel CL Z K ow0 Hb S ρ σ H ow) (f : Slots CL Z K ow Hb H ρ σ F) {i : Nat} {v : V} {y : Val} {as : List Addr} (h : SVF CL Z K ow Hb H v y as) (ap : ∀ (j : Nat), j ≠ i → ∀ a ∈ as, a ∉ F j) :
    Rel CL Z K ow0 Hb S (ρ.set i (some y)) (σ.set i (some v)) H ow := by
  obtain ⟨G, g, _⟩ := f.set r.len h ap
  exact ⟨r.gr, by rw [List.length_set, List.length_set, r.len], r.sb, r.sub, r.mark, r.held, G, g⟩
/-- .. which owns nothing -/
theorem Rel.slot0 (r : Rel CL Z K ow0 Hb S ρ σ H ow) {i : Nat} {v : V} {y : Val} (h : SVF CL Z K ow Hb H v y []) : Rel CL Z K ow0 Hb S (ρ.set i (some y)) (σ.set i (some v)) H ow := by
  obtain ⟨F, f⟩ := r.own
  exact r.slotF f h fun _ _ a m => by cases m
/-- the slot i is known no more: what it owned is free -/
theorem Rel.free (r : Rel CL Z K ow0 Hb S ρ σ H ow) (g0 : Gr Z ow0 Hb) {i : Nat} {y : Val} (hi : ρ[i]? = some (some y)) : ∃ v as, σ[i]? = some (some v) ∧ SVF CL Z K ow Hb H v y as ∧ Rel CL Z K ow0 Hb S (ρ.set i none) σ H (ow.filter (· ∉ as)) := by
  obtain ⟨F, f⟩ := r.own
  obtain ⟨v, h1, h2⟩ := f.at_ i y hi
  have less : Le (hid ow H) (hid (ow.filter (· ∉ F i)) H) := hid_less fun a m => (List.mem_filter.mp m).1
  have keep : ∀ a ∈ ow, a ∉ F i → a ∈ ow.filter (· ∉ F i) := fun a m n => List.mem_filter.mpr ⟨m, by simpa using n⟩
  refine ⟨v, F i, h1, h2, ⟨⟨r.gr.ext, fun a m => keep a (r.gr.fpo a m) fun z => (f.in_ i a z).2.2 m, fun a m => r.gr.isS a (List.mem_filter.mp m).1⟩, by rw [List.length_set, r.len], r.sb, fun a m => keep a (r.sub a m) fun z => g0.no (f.in_ i a z).1 m, r.mark.trans less, r.held, fun j => if j = i then [] else F j, fun j z e => ?_, fun j k a n m1 m2 => ?_, fun j n => ?_⟩⟩
  · rcases getSet e with ⟨_, e1, _⟩ | ⟨n, e1⟩
    · cases e1
    · obtain ⟨u, u1, u2⟩ := f.at_ j z e1
      rw [if_neg n]
      exact ⟨u, u1, u2.mono (fun _ _ _ _ q => q) less fun a m => keep a (u2.in_ a m).2.1 (f.dis j i a n m)⟩
  · by_cases hj : j = i
    · rw [if_pos hj] at m1; cases m1
    · by_cases hk : k = i
      · rw [if_pos hk] at m2; cases m2
      · rw [if_neg hj] at m1
        rw [if_neg hk] at m2
        exact f.dis j k a n m1 m2
  · by_cases hj : j = i
    · rw [if_pos hj]
    · rw [if_neg hj]
      exact f.nil j fun z e => n z (by rw [List.getElem?_set_ne (Ne.symm hj)]; exact e)
end

/-! ### judgements -/
abbrev WE := Ev → (Val → Prop) → (Xn → Prop) → Prop
abbrev WT := Ev → (Bool → Prop) → (Xn → Prop) → Prop
abbrev WA := Ev → (List Val → Prop) → (Xn → Prop) → Prop
structure En where
  nx : Ev → Prop
  rt : Val → Ev → Prop
  bk : Ev → Prop := fun _ => False
  ct : Ev → Prop := fun _ => False
  ex : Xn → Ev → Prop := fun _ _ => False
abbrev WS := En → Ev → Prop

structure PEat (X : Cx) (e : Expr) (σ : L2.St) (H : Hp) (Q : VK) : Prop where
  go : ∀ pins s, Inv X pins σ H s → wpAny (model X.prog X.w) X.A (eval e X.env) (EP X pins σ Q) X.xe s
theorem PEat.pe {X : Cx} {e : Expr} : PE X e (PEat X e) := ⟨fun pins s σ H Q I h => h.go pins s I⟩
theorem PEat.of {X : Cx} {e : Expr} {t : TE} (h : PE X e t) {σ : L2.St} {H : Hp} {Q : VK} (q : t σ H Q) : PEat X e σ H Q := ⟨fun pins s I => h.run pins s σ H Q I q⟩
structure PTat (X : Cx) (e : Expr) (σ : L2.St) (H : Hp) (Q : (Bool → Hp → Prop)) : Prop where
  go : ∀ pins s, Inv X pins σ H s → wpAny (model X.prog X.w) X.A (isTrue e X.env (eval e X.env)) (TP X pins σ Q) X.xe s
theorem PTat.pt {X : Cx} {e : Expr} : PT X e (PTat X e) := ⟨fun pins s σ H Q I h => h.go pins s I⟩
theorem PTat.of {X : Cx} {e : Expr} {t : TT} (h : PT X e t) {σ : L2.St} {H : Hp} {Q : Bool → Hp → Prop} (q : t σ H Q) : PTat X e σ H Q := ⟨fun pins s I => h.run pins s σ H Q I q⟩

/-- the setting of a def's body (or a comprehension's block) -/
structure Sg (X : Cx) (W : WX) (Z : Ext) (CL : Calls) (k : Nat) (ow0 : List Addr) (Hb : Hp) : Prop where
  tk : Takes X W
  po : PassesOwn (model X.prog X.w) X.A X.env X.xe
  calm : X.calm = true
  nd : X.N.Nodup
  room : Room k X.A

section
variable (X : Cx) (W : WX) (Z : Ext) (CL : Calls) (ow0 : List Addr) (Hb : Hp)
def SimE (e : Expr) (w : WE) : Prop := ∀ (S : Hp) (ρ : Ev) (σ : L2.St) (H : Hp) (ow : List Addr) (P : Val → Prop) (Ex : Xn → Prop) (Q : VK),
  Rel CL Z X.K ow0 Hb S ρ σ H ow → w ρ P Ex → Gd CL Z X.K ow H P Q → Bd Z X.K ow X.mg W σ H Ex → PEat X e σ H Q
def GdT (H0 : Hp) (P : Bool → Prop) (Q : Bool → Hp → Prop) : Prop := ∀ b H', P b → SameBut (fp Z) H0 H' → RZ Z H' → Q b H'
def SimT (e : Expr) (w : WT) : Prop := ∀ (S : Hp) (ρ : Ev) (σ : L2.St) (H : Hp) (ow : List Addr) (P : Bool → Prop) (Ex : Xn → Prop) (Q : Bool → Hp → Prop),
  Rel CL Z X.K ow0 Hb S ρ σ H ow → w ρ P Ex → GdT Z H P Q → Bd Z X.K ow X.mg W σ H Ex → PTat X e σ H Q
/-- values in a row -/
inductive RVs (K : PySem.W.Frag) (ow : List Addr) (H0 H : Hp) : List V → List Val → Prop
  | nil : RVs K ow H0 H [] []
  | cons {v : V} {vs : List V} {y : Val} {ys : List Val} : RV CL Z K ow H0 H v y → RVs K ow H0 H vs ys → RVs K ow H0 H (v :: vs) (y :: ys)
def GdA (K : PySem.W.Frag) (ow : List Addr) (H0 : Hp) (P : List Val → Prop) (Q : List V → Hp → Prop) : Prop := ∀ ys vs H', P ys → SameBut (fp Z) H0 H' → RZ Z H' → RVs Z CL K ow H0 H' vs ys → Q vs H'
structure PAat (es : List Expr) (σ : L2.St) (H : Hp) (Q : (List V → Hp → Prop)) : Prop where
  go : ∀ (pos : Pos) pins s, Inv X pins σ H s → wpAny (model X.prog X.w) X.A (spliced (backTo pos (starEach es X.env))) (AP X pins σ Q) X.xe s
def SimA (es : List Expr) (w : WA) : Prop := ∀ (S : Hp) (ρ : Ev) (σ : L2.St) (H : Hp) (ow : List Addr) (P : List Val → Prop) (Ex : Xn → Prop) (Q : List V → Hp → Prop),
  Rel CL Z X.K ow0 Hb S ρ σ H ow → w ρ P Ex → GdA Z CL X.K ow H P Q → Bd Z X.K ow X.mg W σ H Ex → PAat X es σ H Q
end
theorem PAat.pa {X : Cx} {es : List Expr} : PA X es (PAat X es) := ⟨fun pos pins s σ H Q I h => h.go pos pins s I⟩
theorem PAat.of {X : Cx} {es : List Expr} {t : TA} (h : PA X es t) {σ : L2.St} {H : Hp} {Q : List V → Hp → Prop} (q : t σ H Q) : PAat X es σ H Q := ⟨fun pos pins s I => h.run pos pins s σ H Q I q⟩

section
variable {X : Cx} {W : WX} {Z : Ext} {CL : Calls} {ow0 : List Addr} {Hb : Hp}
/-! ### names, constants -/
def brw : Val → Val
  | .own xs => .bor xs
  | .tr .own t => .tr .bor t
  | y => y
def wVar (i : Nat) : WE := fun ρ P _ => match ρ[i]? with
  | some (some y) => P (brw y)
  | _ => False
theorem sim_var (i : Nat) {x : Str} {pos : Pos} (hN : X.N[i]? = some x := by rfl) (hv : Vis X.env.scope x := by first | exact Or.inl rfl | exact Or.inr (Or.inl rfl) | exact Or.inr (Or.inr rfl)) (hd : (x == ("__debug__" : Str)) = false := by decide)
    (hcd : (x == ("__classdict__" : Str)) = false := by decide) : SimE X W Z CL ow0 Hb (.Name x pos) (wVar i) := by
  intro S ρ σ H ow P Ex Q r w g b
  unfold wVar at w
  split at w
  · rename_i y hy
    obtain ⟨v, h1, h2⟩ := r.val i y hy
    refine PEat.of (pe_var hN hv hd hcd) ⟨v, h1, g (brw y) v H w (.refl _ _) r.gr.ext ?_⟩
    cases y with
    | d x => exact h2
    | own xs =>
      obtain ⟨p, vs, rfl, h0, n, z, hp, ha⟩ := h2
      exact ⟨p, vs, rfl, n, z, hp, ha⟩
    | bor xs => exact h2.elim
    | bag => exact h2
    | fn f φ => exact h2
    | tr m t =>
      obtain ⟨as, h2⟩ := h2
      cases m with
      | own => exact ⟨as, h2.1, fun a m => (h2.2.2 a m).2⟩
      | bor => exact h2.elim
      | held =>
        obtain ⟨_, bs, h2⟩ := h2
        exact ⟨bs, h2, fun a m => by
          obtain ⟨o, _, q⟩ := h2.there a m
          exact ⟨(r.held a o q).2.2, fun o q => ⟨(r.held a o q).1, r.hold q⟩⟩⟩
  · exact w.elim
def wC (x : D) : WE := fun _ P _ => P (.d x)
theorem sim_int {i j pos} : SimE X W Z CL ow0 Hb (.Constant (.int i) j pos) (wC (.int i)) := fun S ρ σ H ow P Ex Q r w g b => PEat.of pe_int (g.sc w r.gr.ext fun _ => .int i)
theorem sim_bl {x j pos} : SimE X W Z CL ow0 Hb (.Constant (.bool x) j pos) (wC (.bool x)) := fun S ρ σ H ow P Ex Q r w g b => PEat.of pe_bl (g.sc w r.gr.ext fun _ => .bl x)
theorem sim_non {j pos} : SimE X W Z CL ow0 Hb (.Constant .none j pos) (wC .none) := fun S ρ σ H ow P Ex Q r w g b => PEat.of pe_non (g.sc w r.gr.ext fun _ => .non)
theorem sim_str {x j pos} : SimE X W Z CL ow0 Hb (.Constant (.str x) j pos) (wC (.str x)) := fun S ρ σ H ow P Ex Q r w g b => PEat.of pe_str (g.sc w r.gr.ext fun _ => .str x)
/-- a module's constant -/
theorem sim_glob {x : Str} {v : V} {u : Value} {pos : Pos} {d : D} (hg : Gl X x) (hm : X.mg x = some u) (rv : RelV v u) (hd : ∀ H, Dt X.K H v d) (hdb : (x == ("__debug__" : Str)) = false := by decide) : SimE X W Z CL ow0 Hb (.Name x pos) (wC d) :=
  fun S ρ σ H ow P Ex Q r w g b => PEat.of (pe_glob hg hm rv hdb) (g.sc w r.gr.ext hd)

/-! ### operators -/
abbrev Op2 := Val → Val → (Val → Prop) → Prop
def rD (CL : Calls) (Z : Ext) (K : PySem.W.Frag) (op : Op2) : R2 := fun x y H Q => ∃ ow H0 a b P, Gr Z ow H ∧ RV CL Z K ow H0 H x a ∧ RV CL Z K ow H0 H y b ∧ op a b P ∧ Gd CL Z K ow H P Q
def wOp (op : Op2) (wa wb : WE) : WE := fun ρ P Ex => wa ρ (fun x => wb ρ (fun y => op x y P) Ex) Ex
/-- two expressions in a row -/
theorem two {ea eb : Expr} {wa wb : WE} (ha : SimE X W Z CL ow0 Hb ea wa) (hb : SimE X W Z CL ow0 Hb eb wb) {S : Hp} {ρ : Ev} {σ : L2.St} {H : Hp} {ow : List Addr} {Ex : Xn → Prop} {R : Val → Val → Prop} {Q : V → V → Hp → Prop}
    (r : Rel CL Z X.K ow0 Hb S ρ σ H ow) (b : Bd Z X.K ow X.mg W σ H Ex) (w : wa ρ (fun x => wb ρ (fun y => R x y) Ex) Ex)
    (hQ : ∀ x y v u H', R x y → SameBut (fp Z) H H' → RZ Z H' → RV CL Z X.K ow H H' v x → RV CL Z X.K ow H H' u y → Q v u H') :
    PEat X ea σ H fun v H1 => PEat X eb σ H1 fun u H2 => Q v u H2 := by
  refine ha S ρ σ H ow _ Ex _ r w (fun x v H1 wb1 e1 z1 h1 => ?_) b
  have r1 := r.step e1 z1
  refine hb S ρ σ H1 ow _ Ex _ r1 wb1 (fun y u H2 q e2 z2 h2 => ?_) (b.step e1)
  exact hQ x y v u H2 q (e1.trans e2) z2 (h1.stay e2 r.gr.fpo) (h2.back e1 r.gr.fpo)
theorem sim_op {ea eb : Expr} {wa wb : WE} {o : Operator} {op : Op2} {pos : Pos} (ho : OpR X (binaryOp o) (rD CL Z X.K op)) (ha : SimE X W Z CL ow0 Hb ea wa) (hb : SimE X W Z CL ow0 Hb eb wb) : SimE X W Z CL ow0 Hb (.BinOp ea o eb pos) (wOp op wa wb) := by
  intro S ρ σ H ow P Ex Q r w g b
  refine PEat.of (pe_op ho PEat.pe PEat.pe) ?_
  exact two ha hb r b w fun x y v u H' q e z h1 h2 => ⟨ow, H, x, y, P, r.gr.step e z, h1, h2, q, g.step e r.gr.fpo⟩
theorem sim_cmp {ea eb : Expr} {wa wb : WE} {o : CmpOp} {op : Op2} {pos : Pos} (ho : OpR X (compareOp o) (rD CL Z X.K op)) (ha : SimE X W Z CL ow0 Hb ea wa) (hb : SimE X W Z CL ow0 Hb eb wb) (hm : behindInMarks o eb = false := by first | exact nobehind _ (by decide) (by decide) | rfl) :
    SimE X W Z CL ow0 Hb (.Compare ea [o] [eb] pos) (wOp op wa wb) := by
  intro S ρ σ H ow P Ex Q r w g b
  refine PEat.of (pe_cmpR ho PEat.pe PEat.pe hm) ?_
  exact two ha hb r b w fun x y v u H' q e z h1 h2 => ⟨ow, H, x, y, P, r.gr.step e z, h1, h2, q, g.step e r.gr.fpo⟩

/-! ### tests -/
def wTv (w : WE) : WT := fun ρ P Ex => w ρ (fun y => match y with
  | .d (.bool b) => P b
  | _ => False) Ex
/-- an expression whose value is a truth, as a test -/
theorem sim_tv {e : Expr} {we : WE} (h : SimE X W Z CL ow0 Hb e we) (he : ∀ whole, isTrue e X.env whole = (do let v ← whole; standAt e.pos; holding [v] (truthy v)) := by intro _; rfl) : SimT X W Z CL ow0 Hb e (wTv we) := by
  intro S ρ σ H ow P Ex Q r w g b
  refine PTat.of (pt_val PEat.pe he) ?_
  refine h S ρ σ H ow _ Ex _ r w (fun y v H' p e z q => ?_) b
  cases y with
  | d x =>
    cases x with
    | bool c =>
      cases (q : Dt X.K (hid ow H') v (.bool c))
      exact ⟨c, rfl, g c H' p e z⟩
    | _ => exact (p : False).elim
  | _ => exact (p : False).elim
theorem sim_tcmp {ea eb : Expr} {wa wb : WE} {o : CmpOp} {op : Op2} {pos : Pos} (ho : OpR X (compareOp o) (rD CL Z X.K op)) (ha : SimE X W Z CL ow0 Hb ea wa) (hb : SimE X W Z CL ow0 Hb eb wb) (hm : behindInMarks o eb = false := by first | exact nobehind _ (by decide) (by decide) | rfl) :
    SimT X W Z CL ow0 Hb (.Compare ea [o] [eb] pos) (wTv (wOp op wa wb)) := by
  intro S ρ σ H ow P Ex Q r w g b
  refine PTat.of (pt_cmpR ho PEat.pe PEat.pe hm) ?_
  refine two ha hb r b w fun x y v u H' q e z h1 h2 => ⟨ow, H, x, y, _, r.gr.step e z, h1, h2, q, fun y v H'' p e' z' q' => ?_⟩
  cases y with
  | d x =>
    cases x with
    | bool c =>
      cases (q' : Dt X.K (hid ow H'') v (.bool c))
      exact ⟨c, rfl, g c H'' p (e.trans e') z'⟩
    | _ => exact (p : False).elim
  | _ => exact (p : False).elim
def wTnot (w : WT) : WT := fun ρ P Ex => w ρ (fun b => P (!b)) Ex
theorem sim_tnot {e : Expr} {we : WT} {pos : Pos} (h : SimT X W Z CL ow0 Hb e we) : SimT X W Z CL ow0 Hb (.UnaryOp .Not e pos) (wTnot we) := by
  intro S ρ σ H ow P Ex Q r w g b
  exact PTat.of (pt_not PTat.pt) (h S ρ σ H ow _ Ex _ r w (fun c H' p e z => g (!c) H' p e z) b)
def wTand (wa wb : WT) : WT := fun ρ P Ex => wa ρ (fun b => if b = true then wb ρ P Ex else P false) Ex
def wTor (wa wb : WT) : WT := fun ρ P Ex => wa ρ (fun b => if b = true then P true else wb ρ P Ex) Ex
/-- a test whatever its whole is -/
structure PWat (X : Cx) (e : Expr) (σ : L2.St) (H : Hp) (Q : (Bool → Hp → Prop)) : Prop where
  go : ∀ whole pins s, Inv X pins σ H s → wpAny (model X.prog X.w) X.A (isTrue e X.env whole) (TP X pins σ Q) X.xe s
theorem PWat.pw {e : Expr} : PW X e (PWat X e) := ⟨fun wh pins s σ H Q I h => h.go wh pins s I⟩
theorem PWat.of {e : Expr} {t : TT} (h : PW X e t) {σ : L2.St} {H : Hp} {Q : Bool → Hp → Prop} (q : t σ H Q) : PWat X e σ H Q := ⟨fun wh pins s I => h.run wh pins s σ H Q I q⟩
def SimW (X : Cx) (W : WX) (Z : Ext) (CL : Calls) (ow0 : List Addr) (Hb : Hp) (e : Expr) (w : WT) : Prop := ∀ (S : Hp) (ρ : Ev) (σ : L2.St) (H : Hp) (ow : List Addr) (P : Bool → Prop) (Ex : Xn → Prop) (Q : Bool → Hp → Prop),
  Rel CL Z X.K ow0 Hb S ρ σ H ow → w ρ P Ex → GdT Z H P Q → Bd Z X.K ow X.mg W σ H Ex → PWat X e σ H Q
theorem SimW.t {e : Expr} {we : WT} (h : SimW X W Z CL ow0 Hb e we) : SimT X W Z CL ow0 Hb e we := fun S ρ σ H ow P Ex Q r w g b => PTat.of (PW.pt PWat.pw) (h S ρ σ H ow P Ex Q r w g b)
theorem sim_and1 {e : Expr} {we : WT} {pos : Pos} (h : SimT X W Z CL ow0 Hb e we) : SimW X W Z CL ow0 Hb (.BoolOp .And [e] pos) we := fun S ρ σ H ow P Ex Q r w g b => PWat.of (pw_and1 PTat.pt) (h S ρ σ H ow P Ex Q r w g b)
theorem sim_or1 {e : Expr} {we : WT} {pos : Pos} (h : SimT X W Z CL ow0 Hb e we) : SimW X W Z CL ow0 Hb (.BoolOp .Or [e] pos) we := fun S ρ σ H ow P Ex Q r w g b => PWat.of (pw_or1 PTat.pt) (h S ρ σ H ow P Ex Q r w g b)
theorem sim_and {a b : Expr} {rest : List Expr} {wa wb : WT} {pos : Pos} (ha : SimT X W Z CL ow0 Hb a wa) (hb : SimW X W Z CL ow0 Hb (.BoolOp .And (b :: rest) pos) wb) : SimW X W Z CL ow0 Hb (.BoolOp .And (a :: b :: rest) pos) (wTand wa wb) := by
  intro S ρ σ H ow P Ex Q r w g bd
  refine PWat.of (pw_and PTat.pt PWat.pw) (ha S ρ σ H ow _ Ex _ r w (fun c H' p e z => ?_) bd)
  cases c with
  | true => exact hb S ρ σ H' ow P Ex Q (r.step e z) p (fun c H'' p' e' z' => g c H'' p' (e.trans e') z') (bd.step e)
  | false => exact g false H' p e z
theorem sim_or {a b : Expr} {rest : List Expr} {wa wb : WT} {pos : Pos} (ha : SimT X W Z CL ow0 Hb a wa) (hb : SimW X W Z CL ow0 Hb (.BoolOp .Or (b :: rest) pos) wb) : SimW X W Z CL ow0 Hb (.BoolOp .Or (a :: b :: rest) pos) (wTor wa wb) := by
  intro S ρ σ H ow P Ex Q r w g bd
  refine PWat.of (pw_or PTat.pt PWat.pw) (ha S ρ σ H ow _ Ex _ r w (fun c H' p e z => ?_) bd)
  cases c with
  | false => exact hb S ρ σ H' ow P Ex Q (r.step e z) p (fun c H'' p' e' z' => g c H'' p' (e.trans e') z') (bd.step e)
  | true => exact g true H' p e z
/-! .. as values -/
def wAnd (wa wb : WE) : WE := fun ρ P Ex => wa ρ (fun y => match y with
  | .d (.bool b) => if b = true then wb ρ P Ex else P (.d (.bool false))
  | _ => False) Ex
def wOr (wa wb : WE) : WE := fun ρ P Ex => wa ρ (fun y => match y with
  | .d (.bool b) => if b = true then P (.d (.bool true)) else wb ρ P Ex
  | _ => False) Ex
def wNot (w : WE) : WE := fun ρ P Ex => w ρ (fun y => match y with
  | .d (.bool b) => P (.d (.bool (!b)))
  | _ => False) Ex
theorem sim_vone {e : Expr} {we : WE} {op : BoolOp} {pos : Pos} (h : SimE X W Z CL ow0 Hb e we) : SimE X W Z CL ow0 Hb (.BoolOp op [e] pos) we := fun S ρ σ H ow P Ex Q r w g b => PEat.of (pe_one PEat.pe) (h S ρ σ H ow P Ex Q r w g b)
theorem sim_vand {a b : Expr} {rest : List Expr} {wa wb : WE} {pos : Pos} (ha : SimE X W Z CL ow0 Hb a wa) (hb : SimE X W Z CL ow0 Hb (.BoolOp .And (b :: rest) pos) wb) : SimE X W Z CL ow0 Hb (.BoolOp .And (a :: b :: rest) pos) (wAnd wa wb) := by
  intro S ρ σ H ow P Ex Q r w g bd
  refine PEat.of (pe_and PEat.pe PEat.pe) (ha S ρ σ H ow _ Ex _ r w (fun y v H' p e z h => ?_) bd)
  cases y with
  | d x =>
    cases x with
    | bool c =>
      cases (h : Dt X.K (hid ow H') v (.bool c))
      refine ⟨c, rfl, ?_⟩
      cases c with
      | true => exact hb S ρ σ H' ow P Ex Q (r.step e z) p (g.step e r.gr.fpo) (bd.step e)
      | false => exact (g.step e r.gr.fpo).sc p z fun _ => .bl false
    | _ => exact (p : False).elim
  | _ => exact (p : False).elim
theorem sim_vor {a b : Expr} {rest : List Expr} {wa wb : WE} {pos : Pos} (ha : SimE X W Z CL ow0 Hb a wa) (hb : SimE X W Z CL ow0 Hb (.BoolOp .Or (b :: rest) pos) wb) : SimE X W Z CL ow0 Hb (.BoolOp .Or (a :: b :: rest) pos) (wOr wa wb) := by
  intro S ρ σ H ow P Ex Q r w g bd
  refine PEat.of (pe_or PEat.pe PEat.pe) (ha S ρ σ H ow _ Ex _ r w (fun y v H' p e z h => ?_) bd)
  cases y with
  | d x =>
    cases x with
    | bool c =>
      cases (h : Dt X.K (hid ow H') v (.bool c))
      refine ⟨c, rfl, ?_⟩
      cases c with
      | false => exact hb S ρ σ H' ow P Ex Q (r.step e z) p (g.step e r.gr.fpo) (bd.step e)
      | true => exact (g.step e r.gr.fpo).sc p z fun _ => .bl true
    | _ => exact (p : False).elim
  | _ => exact (p : False).elim
theorem sim_vnot {e : Expr} {we : WE} {pos : Pos} (h : SimE X W Z CL ow0 Hb e we) : SimE X W Z CL ow0 Hb (.UnaryOp .Not e pos) (wNot we) := by
  intro S ρ σ H ow P Ex Q r w g bd
  refine PEat.of (pe_not PEat.pe) (h S ρ σ H ow _ Ex _ r w (fun y v H' p e z h => ?_) bd)
  cases y with
  | d x =>
    cases x with
    | bool c =>
      cases (h : Dt X.K (hid ow H') v (.bool c))
      exact ⟨c, rfl, (g.step e r.gr.fpo).sc p z fun _ => .bl _⟩
    | _ => exact (p : False).elim
  | _ => exact (p : False).elim
/-- a if t else b -/
def wIf (wt : WT) (wa wb : WE) : WE := fun ρ P Ex => wt ρ (fun b => if b = true then wa ρ P Ex else wb ρ P Ex) Ex
theorem sim_ifx {c a b : Expr} {wt : WT} {wa wb : WE} {pos : Pos} (hc : SimT X W Z CL ow0 Hb c wt) (ha : SimE X W Z CL ow0 Hb a wa) (hb : SimE X W Z CL ow0 Hb b wb) : SimE X W Z CL ow0 Hb (.IfExp c a b pos) (wIf wt wa wb) := by
  intro S ρ σ H ow P Ex Q r w g bd
  refine PEat.of (pe_ifExp PTat.pt PEat.pe PEat.pe) (hc S ρ σ H ow _ Ex _ r w (fun c H' p e z => ?_) bd)
  cases c with
  | true => exact ha S ρ σ H' ow P Ex Q (r.step e z) p (g.step e r.gr.fpo) (bd.step e)
  | false => exact hb S ρ σ H' ow P Ex Q (r.step e z) p (g.step e r.gr.fpo) (bd.step e)
end
end Pd

/-! Pd3: operators and comparisons over data. -/
namespace Pd
open PySem PySem.Spec PyProof.Rows L2

/-! ### no dict lies within -/
mutual
theorem Dt.plain {K : PySem.W.Frag} {H : Hp} : ∀ {v : V} {d : D}, Dt K H v d → d.plain = true
  | _, _, .non => rfl
  | _, _, .bl b => rfl
  | _, _, .int i => rfl
  | _, _, .str x => rfl
  | _, _, .lst h t => by show PyData.plainAll _ = true; exact DtAll.plain t
  | _, _, .tup h t => by show PyData.plainAll _ = true; exact DtAll.plain t
theorem DtAll.plain {K : PySem.W.Frag} {H : Hp} : ∀ {vs : List V} {ds : List D}, DtAll K H vs ds → PyData.plainAll ds = true
  | _, _, .nil => rfl
  | _, _, .cons h t => by
    show (_ && _) = true
    rw [Dt.plain h, DtAll.plain t]
    rfl
end

section
variable {X : Cx} {pins : List (Addr × Obj)} {σ : L2.St} {s : Shared} {CL : Calls} {Z : Ext} {K : PySem.W.Frag} {ow : List Addr} {H0 H : Hp} {v u : V} {x y : Val}
theorem RV.plain (h : RV CL Z K ow H0 H v y) {d : D} (e : y.rd = some d) : d.plain = true := (h.rd e).plain
theorem RV.reads (I : Inv X pins σ H s) (h : RV CL Z X.K ow H0 H v y) {d : D} (e : y.rd = some d) {z : Value} (r : RelV v z) : ∃ as, Reads s.heap z d as := Dp.reads I d v z (h.rd e).dp r
/-- a list, its items hidden from the owned ones -/
theorem RV.list (h : RV CL Z K ow H0 H v y) {xs : List D} (e : y.rd = some (.list xs)) : ∃ p vs, v = .ref p ∧ H p = some (.lst vs) ∧ DtAll K (hid ow H) vs xs := by
  cases y with
  | d x =>
    cases e
    cases (h : Dt K (hid ow H) v (.list xs)) with
    | lst h1 h2 => exact ⟨_, _, rfl, hid_le _ _ h1, h2⟩
  | own zs =>
    cases e
    obtain ⟨p, vs, rfl, _, _, hp, ha⟩ := h
    exact ⟨p, vs, rfl, hp, DtAll.mono hid_tail ha⟩
  | bor zs =>
    cases e
    obtain ⟨p, vs, rfl, _, _, hp, ha⟩ := h
    exact ⟨p, vs, rfl, hp, ha⟩
  | bag => cases e
  | fn f φ => cases e
  | tr m t =>
    obtain ⟨as, h⟩ := h.tree
    cases t with
    | own xs =>
      cases e
      cases h with
      | own h1 h2 => exact ⟨_, _, rfl, h1, h2⟩
    | d x =>
      cases e
      cases h with
      | d h =>
        cases h with
        | lst h1 h2 => exact ⟨_, _, rfl, hid_le _ _ h1, h2⟩
    | ls ts => cases e
    | dc l lk kvs => cases e
    | ob c fs => cases e
theorem RV.tuple (h : RV CL Z K ow H0 H v y) {xs : List D} (e : y.rd = some (.tuple xs)) : ∃ p vs, v = .ref p ∧ SqT K (hid ow H) p vs ∧ DtAll K (hid ow H) vs xs := by
  cases y with
  | d x =>
    cases e
    cases (h : Dt K (hid ow H) v (.tuple xs)) with
    | tup h1 h2 => exact ⟨_, _, rfl, h1, h2⟩
  | own zs => cases e
  | bor zs => cases e
  | bag => cases e
  | fn f φ => cases e
  | tr m t =>
    obtain ⟨as, h⟩ := h.tree
    cases t with
    | d x =>
      cases e
      cases h with
      | d h =>
        cases h with
        | tup h1 h2 => exact ⟨_, _, rfl, h1, h2⟩
    | own xs => cases e
    | ls ts => cases e
    | dc l lk kvs => cases e
    | ob c fs => cases e
theorem RV.int (h : RV CL Z K ow H0 H v y) {i : Int} (e : y.rd = some (.int i)) : v = .int i := by
  cases h.rd e
  rfl
theorem RV.str (h : RV CL Z K ow H0 H v y) {i : Str} (e : y.rd = some (.str i)) : v = .str i := by
  cases h.rd e
  rfl
theorem RV.bool (h : RV CL Z K ow H0 H v y) {i : Bool} (e : y.rd = some (.bool i)) : v = .bl i := by
  cases h.rd e
  rfl
end

/-! ### + - * -/
def opAdd : Op2 := fun a b P => match a.rd, b.rd with
  | some (.int i), some (.int j) => P (.d (.int (i + j)))
  | some (.str i), some (.str j) => i.length + j.length ≤ sizeLine ∧ P (.d (.str (i ++ j)))
  | some (.list xs), some (.list ys) => xs.length + ys.length ≤ sizeLine ∧ P (.own (xs ++ ys))
  | some (.tuple xs), some (.tuple ys) => xs.length + ys.length ≤ sizeLine ∧ P (.d (.tuple (xs ++ ys)))
  | _, _ => False
def opSub : Op2 := fun a b P => match a.rd, b.rd with
  | some (.int i), some (.int j) => P (.d (.int (i - j)))
  | _, _ => False
/-- the left factor, or the right one, below 2^64; a list or a text so many times -/
def opMul : Op2 := fun a b P => match a.rd, b.rd with
  | some (.int i), some (.int j) => CMul i j ∧ P (.d (.int (i * j)))
  | some (.list xs), some (.int k) => (-(2 ^ 63) ≤ k ∧ k < 2 ^ 63 ∧ xs.length * k.toNat ≤ sizeLine) ∧ P (.own (List.replicate k.toNat xs).flatten)
  | _, _ => False
def opMod : Op2 := fun a b P => match a.rd, b.rd with
  | some (.int i), some (.int j) => 0 < j ∧ P (.d (.int (i % j)))
  | _, _ => False
def opFdiv : Op2 := fun a b P => match a.rd, b.rd with
  | some (.int i), some (.int j) => CDiv i j ∧ P (.d (.int (i / j)))
  | _, _ => False
theorem DtAll.rep {K : PySem.W.Frag} {H : Hp} {vs : List V} {xs : List D} (h : DtAll K H vs xs) : ∀ n : Nat, DtAll K H (List.replicate n vs).flatten (List.replicate n xs).flatten
  | 0 => .nil
  | n + 1 => by
    simp only [List.replicate_succ, List.flatten_cons]
    exact h.append (DtAll.rep h n)
section
variable {X : Cx} {CL : Calls} {Z : Ext}
theorem or_add : OpR X (binaryOp .Add) (rD CL Z X.K opAdd) := by
  intro pins s σ H x y v u Q I rx ry h
  obtain ⟨ow, H0, a, b, P, gr, ha, hb, w, g⟩ := h
  unfold opAdd at w
  split at w
  · rename_i i j e1 e2
    rw [ha.int e1] at rx
    rw [hb.int e2] at ry
    exact op_add pins s σ H _ _ v u Q I rx ry ⟨i, j, rfl, rfl, g.sc w gr.ext fun _ => .int _⟩
  · rename_i i j e1 e2
    rw [ha.str e1] at rx
    rw [hb.str e2] at ry
    exact op_add_str pins s σ H _ _ v u Q I rx ry ⟨i, j, rfl, rfl, w.1, g.sc w.2 gr.ext fun _ => .str _⟩
  · rename_i xs ys e1 e2
    obtain ⟨p, vs, rfl, h1, a1⟩ := ha.list e1
    obtain ⟨q, ws, rfl, h2, a2⟩ := hb.list e2
    refine op_cat pins s σ H _ _ v u Q I rx ry ⟨p, q, vs, ws, rfl, rfl, h1, h2, by rw [a1.length, a2.length]; exact w.1, fun l hl => ?_⟩
    exact g.lst w.2 gr hl (a1.append a2)
  · rename_i xs ys e1 e2
    obtain ⟨p, vs, rfl, h1, a1⟩ := ha.tuple e1
    obtain ⟨q, ws, rfl, h2, a2⟩ := hb.tuple e2
    refine op_catA pins s σ H _ _ v u Q I rx ry ⟨p, q, vs, ws, rfl, rfl, hid_le.sqt h1, hid_le.sqt h2, by rw [a1.length, a2.length]; exact w.1, fun z => ?_, fun z1 z2 => ?_, fun _ _ l hl => ?_⟩
    · subst z
      cases a1
      exact g (.d (.tuple ys)) _ H w.2 (.refl _ _) gr.ext (.tup h2 a2)
    · subst z2
      cases a2
      exact g (.d (.tuple xs)) _ H (by have z := w.2; rw [List.append_nil] at z; exact z) (.refl _ _) gr.ext (.tup h1 a1)
    · exact g.tup w.2 gr hl (a1.append a2)
  · exact w.elim
theorem or_sub : OpR X (binaryOp .Sub) (rD CL Z X.K opSub) := by
  intro pins s σ H x y v u Q I rx ry h
  obtain ⟨ow, H0, a, b, P, gr, ha, hb, w, g⟩ := h
  unfold opSub at w
  split at w
  · rename_i i j e1 e2
    rw [ha.int e1] at rx
    rw [hb.int e2] at ry
    exact op_sub pins s σ H _ _ v u Q I rx ry ⟨i, j, rfl, rfl, g.sc w gr.ext fun _ => .int _⟩
  · exact w.elim
theorem or_mul : OpR X (binaryOp .Mult) (rD CL Z X.K opMul) := by
  intro pins s σ H x y v u Q I rx ry h
  obtain ⟨ow, H0, a, b, P, gr, ha, hb, w, g⟩ := h
  unfold opMul at w
  split at w
  · rename_i i j e1 e2
    rw [ha.int e1] at rx
    rw [hb.int e2] at ry
    exact op_mul pins s σ H _ _ v u Q I rx ry ⟨i, j, rfl, rfl, w.1, g.sc w.2 gr.ext fun _ => .int _⟩
  · rename_i xs k e1 e2
    obtain ⟨p, vs, rfl, h1, a1⟩ := ha.list e1
    rw [hb.int e2] at ry
    refine op_rep pins s σ H _ _ v u Q I rx ry ⟨p, k, vs, rfl, rfl, h1, w.1.1, w.1.2.1, by rw [a1.length]; exact w.1.2.2, fun l hl => ?_⟩
    exact g.lst w.2 gr hl (a1.rep _)
  · exact w.elim
theorem or_mod : OpR X (binaryOp .Mod) (rD CL Z X.K opMod) := by
  intro pins s σ H x y v u Q I rx ry h
  obtain ⟨ow, H0, a, b, P, gr, ha, hb, w, g⟩ := h
  unfold opMod at w
  split at w
  · rename_i i j e1 e2
    rw [ha.int e1] at rx
    rw [hb.int e2] at ry
    exact op_mod pins s σ H _ _ v u Q I rx ry ⟨i, j, rfl, rfl, w.1, g.sc w.2 gr.ext fun _ => .int _⟩
  · exact w.elim
theorem or_fdiv : OpR X (binaryOp .FloorDiv) (rD CL Z X.K opFdiv) := by
  intro pins s σ H x y v u Q I rx ry h
  obtain ⟨ow, H0, a, b, P, gr, ha, hb, w, g⟩ := h
  unfold opFdiv at w
  split at w
  · rename_i i j e1 e2
    rw [ha.int e1] at rx
    rw [hb.int e2] at ry
    exact op_fdiv pins s σ H _ _ v u Q I rx ry ⟨i, j, rfl, rfl, w.1, g.sc w.2 gr.ext fun _ => .int _⟩
  · exact w.elim
/-- -a -/
def wNeg (w : WE) : WE := fun ρ P Ex => w ρ (fun y => match y with
  | .d (.int i) => P (.d (.int (-i)))
  | _ => False) Ex
theorem sim_neg {W : WX} {ow0 : List Addr} {Hb : Hp} {e : Expr} {we : WE} {pos : Pos} (h : SimE X W Z CL ow0 Hb e we) : SimE X W Z CL ow0 Hb (.UnaryOp .USub e pos) (wNeg we) := by
  intro S ρ σ H ow P Ex Q r w g bd
  refine PEat.of (pe_un un_neg PEat.pe) (h S ρ σ H ow _ Ex _ r w (fun y v H' p e z h => ?_) bd)
  cases y with
  | d x =>
    cases x with
    | int c =>
      cases (h : Dt X.K (hid ow H') v (.int c))
      exact ⟨c, rfl, (g.step e r.gr.fpo).sc p z fun _ => .int _⟩
    | _ => exact (p : False).elim
  | _ => exact (p : False).elim
end

/-! ### comparisons -/
def opCmp (f : Int → Int → Bool) (g : List Nat → List Nat → Bool) : Op2 := fun a b P => match a.rd, b.rd with
  | some (.int i), some (.int j) => P (.d (.bool (f i j)))
  | some (.str i), some (.str j) => P (.d (.bool (g i.cps.toList j.cps.toList)))
  | _, _ => False
abbrev opLt : Op2 := opCmp (fun i j => decide (i < j)) (fun i j => decide (i < j))
abbrev opLe : Op2 := opCmp (fun i j => decide (i ≤ j)) (fun i j => !decide (j < i))
abbrev opGt : Op2 := opCmp (fun i j => decide (j < i)) (fun i j => decide (j < i))
abbrev opGe : Op2 := opCmp (fun i j => decide (j ≤ i)) (fun i j => !decide (i < j))
section
variable {X : Cx} {CL : Calls} {Z : Ext}
theorem or_cmp {o : CmpOp} {f : Int → Int → Bool} {g : List Nat → List Nat → Bool} (hi : OpR X (compareOp o) (rI0 fun i j => .bl (f i j)))
    (hs : OpR X (compareOp o) (fun x y H Q => ∃ i j, x = .str i ∧ y = .str j ∧ Q (.bl (g i.cps.toList j.cps.toList)) H)) : OpR X (compareOp o) (rD CL Z X.K (opCmp f g)) := by
  intro pins s σ H x y v u Q I rx ry h
  obtain ⟨ow, H0, a, b, P, gr, ha, hb, w, gd⟩ := h
  unfold opCmp at w
  split at w
  · rename_i i j e1 e2
    rw [ha.int e1] at rx
    rw [hb.int e2] at ry
    exact hi pins s σ H _ _ v u Q I rx ry ⟨i, j, rfl, rfl, gd.sc w gr.ext fun _ => .bl _⟩
  · rename_i i j e1 e2
    rw [ha.str e1] at rx
    rw [hb.str e2] at ry
    exact hs pins s σ H _ _ v u Q I rx ry ⟨i, j, rfl, rfl, gd.sc w gr.ext fun _ => .bl _⟩
  · exact w.elim
theorem or_lt : OpR X (compareOp .Lt) (rD CL Z X.K opLt) := or_cmp op_lt op_lt_str
theorem or_le : OpR X (compareOp .LtE) (rD CL Z X.K opLe) := or_cmp op_le op_le_str
theorem or_gt : OpR X (compareOp .Gt) (rD CL Z X.K opGt) := or_cmp op_gt op_gt_str
theorem or_ge : OpR X (compareOp .GtE) (rD CL Z X.K opGe) := or_cmp op_ge op_ge_str
/-- ==, != of any data -/
def opEq : Op2 := fun a b P => match a.rd, b.rd with
  | some x, some y => min x.depth y.depth ≤ 100 ∧ P (.d (.bool (PyData.eqv x y)))
  | _, _ => False
def opNe : Op2 := fun a b P => match a.rd, b.rd with
  | some x, some y => min x.depth y.depth ≤ 100 ∧ P (.d (.bool (!PyData.eqv x y)))
  | _, _ => False
theorem or_eq (hu : X.A.units + 200 < cLine) : OpR X (compareOp .Eq) (rD CL Z X.K opEq) := by
  intro pins s σ H x y v u Q I rx ry h
  obtain ⟨ow, H0, a, b, P, gr, ha, hb, w, gd⟩ := h
  unfold opEq at w
  split at w
  · rename_i i j e1 e2
    obtain ⟨as, r1⟩ := ha.reads I e1 rx
    obtain ⟨bs, r2⟩ := hb.reads I e2 ry
    exact SeqAt.eq_plain r1 r2 (ha.plain e1) (hb.plain e2) (by omega) ⟨.bl _, H, I, rfl, gd.sc w.2 gr.ext fun _ => .bl _⟩
  · exact w.elim
theorem or_ne (hu : X.A.units + 200 < cLine) : OpR X (compareOp .NotEq) (rD CL Z X.K opNe) := by
  intro pins s σ H x y v u Q I rx ry h
  obtain ⟨ow, H0, a, b, P, gr, ha, hb, w, gd⟩ := h
  unfold opNe at w
  split at w
  · rename_i i j e1 e2
    obtain ⟨as, r1⟩ := ha.reads I e1 rx
    obtain ⟨bs, r2⟩ := hb.reads I e2 ry
    exact SeqAt.ne_plain r1 r2 (ha.plain e1) (hb.plain e2) (by omega) ⟨.bl _, H, I, rfl, gd.sc w.2 gr.ext fun _ => .bl _⟩
  · exact w.elim
/-- in, not in: a list, a tuple; a text in a text -/
def opInB (neg : Bool) : Op2 := fun a b P => match a.rd, b.rd with
  | some x, some (.list ys) => min (PyData.depthAll ys) x.depth ≤ 100 ∧ P (.d (.bool (neg ^^ ys.any fun y => PyData.eqv y x)))
  | some x, some (.tuple ys) => min (PyData.depthAll ys) x.depth ≤ 100 ∧ P (.d (.bool (neg ^^ ys.any fun y => PyData.eqv y x)))
  | some (.str i), some (.str j) => P (.d (.bool (neg ^^ !(Builtin.Str.occurrences j i 0 j.length 1).isEmpty)))
  | _, _ => False
abbrev opIn : Op2 := opInB false
abbrev opNin : Op2 := opInB true
theorem or_in (hu : X.A.units + 200 < cLine) : OpR X (compareOp .In) (rD CL Z X.K opIn) := by
  intro pins s σ H x y v u Q I rx ry h
  obtain ⟨ow, H0, a, b, P, gr, ha, hb, w, gd⟩ := h
  unfold opIn opInB at w
  split at w
  · rename_i i j e1 e2
    obtain ⟨as, r1⟩ := ha.reads I e1 rx
    obtain ⟨bs, r2⟩ := hb.reads I e2 ry
    exact SeqAt.in_list_data r2 r1 (hb.plain e2) (ha.plain e1) (by omega) ⟨.bl _, H, I, rfl, gd.sc (by have z := w.2; rw [Bool.false_xor] at z; exact z) gr.ext fun _ => .bl _⟩
  · rename_i i j e1 e2
    obtain ⟨as, r1⟩ := ha.reads I e1 rx
    obtain ⟨bs, r2⟩ := hb.reads I e2 ry
    exact SeqAt.in_tuple_data r2 r1 (hb.plain e2) (ha.plain e1) (by omega) ⟨.bl _, H, I, rfl, gd.sc (by have z := w.2; rw [Bool.false_xor] at z; exact z) gr.ext fun _ => .bl _⟩
  · rename_i i j e1 e2
    rw [ha.str e1] at rx
    rw [hb.str e2] at ry
    exact op_in_str pins s σ H _ _ v u Q I rx ry ⟨i, j, rfl, rfl, gd.sc (by have z := w; rw [Bool.false_xor] at z; exact z) gr.ext fun _ => .bl _⟩
  · exact w.elim
theorem or_nin (hu : X.A.units + 200 < cLine) : OpR X (compareOp .NotIn) (rD CL Z X.K opNin) := by
  intro pins s σ H x y v u Q I rx ry h
  obtain ⟨ow, H0, a, b, P, gr, ha, hb, w, gd⟩ := h
  unfold opNin opInB at w
  split at w
  · rename_i i j e1 e2
    obtain ⟨as, r1⟩ := ha.reads I e1 rx
    obtain ⟨bs, r2⟩ := hb.reads I e2 ry
    exact SeqAt.notIn_list_data r2 r1 (hb.plain e2) (ha.plain e1) (by omega) ⟨.bl _, H, I, rfl, gd.sc (by have z := w.2; rw [Bool.true_xor] at z; exact z) gr.ext fun _ => .bl _⟩
  · rename_i i j e1 e2
    obtain ⟨as, r1⟩ := ha.reads I e1 rx
    obtain ⟨bs, r2⟩ := hb.reads I e2 ry
    exact SeqAt.notIn_tuple_data r2 r1 (hb.plain e2) (ha.plain e1) (by omega) ⟨.bl _, H, I, rfl, gd.sc (by have z := w.2; rw [Bool.true_xor] at z; exact z) gr.ext fun _ => .bl _⟩
  · rename_i i j e1 e2
    rw [ha.str e1] at rx
    rw [hb.str e2] at ry
    exact op_notin_str pins s σ H _ _ v u Q I rx ry ⟨i, j, rfl, rfl, gd.sc (by have z := w; rw [Bool.true_xor] at z; exact z) gr.ext fun _ => .bl _⟩
  · exact w.elim
/-- is, is not, of truths -/
def opIsB (neg : Bool) : Op2 := fun a b P => match a.rd, b.rd with
  | some (.bool i), some (.bool j) => P (.d (.bool (neg ^^ decide (i = j))))
  | some (.int _), some (.bool _) => P (.d (.bool neg))
  | _, _ => False
theorem or_isB : OpR X (compareOp .Is) (rD CL Z X.K (opIsB false)) := by
  intro pins s σ H x y v u Q I rx ry h
  obtain ⟨ow, H0, a, b, P, gr, ha, hb, w, gd⟩ := h
  unfold opIsB at w
  split at w
  · rename_i i j e1 e2
    rw [ha.bool e1] at rx
    rw [hb.bool e2] at ry
    exact op_isBl pins s σ H _ _ v u Q I rx ry ⟨i, j, rfl, rfl, gd.sc (by have z := w; rw [Bool.false_xor] at z; exact z) gr.ext fun _ => .bl _⟩
  · rename_i i j e1 e2
    rw [ha.int e1] at rx
    rw [hb.bool e2] at ry
    obtain ⟨t, rfl⟩ := rx
    cases ry
    exact wpAny_is_other rfl (fun z => nomatch z) ⟨.bl false, H, I, rfl, gd.sc w gr.ext fun _ => .bl _⟩
  · exact w.elim
theorem or_isnotB : OpR X (compareOp .IsNot) (rD CL Z X.K (opIsB true)) := by
  intro pins s σ H x y v u Q I rx ry h
  obtain ⟨ow, H0, a, b, P, gr, ha, hb, w, gd⟩ := h
  unfold opIsB at w
  split at w
  · rename_i i j e1 e2
    rw [ha.bool e1] at rx
    rw [hb.bool e2] at ry
    exact op_notBl pins s σ H _ _ v u Q I rx ry ⟨i, j, rfl, rfl, gd.sc (by have z := w; rw [Bool.true_xor] at z; exact z) gr.ext fun _ => .bl _⟩
  · rename_i i j e1 e2
    rw [ha.int e1] at rx
    rw [hb.bool e2] at ry
    obtain ⟨t, rfl⟩ := rx
    cases ry
    exact wpAny_isNot_other rfl (fun z => nomatch z) ⟨.bl true, H, I, rfl, gd.sc w gr.ext fun _ => .bl _⟩
  · exact w.elim
/-- is None -/
def isNon : Val → Bool
  | .d .none => true
  | .tr _ (.d .none) => true
  | _ => false
theorem TrAt.isNon {K : PySem.W.Frag} {ns : Nst} {Hd H : Hp} {v : V} {t : Tr} {as : List Addr} {m : Md} (h : TrAt K ns Hd H v t as) : decide (v = .non) = Pd.isNon (.tr m t) := by
  cases h with
  | d h => cases h <;> rfl
  | own => rfl
  | ls => rfl
  | dk => rfl
  | dt => rfl
  | ob => rfl
theorem RV.isNon {K : PySem.W.Frag} {ow : List Addr} {H0 H : Hp} {v : V} {y : Val} (h : RV CL Z K ow H0 H v y) : decide (v = .non) = isNon y := by
  cases y with
  | d x =>
    have h : Dt K (hid ow H) v x := h
    cases h <;> rfl
  | own xs => obtain ⟨p, vs, rfl, _⟩ := h; rfl
  | bor xs => obtain ⟨p, vs, rfl, _⟩ := h; rfl
  | bag => obtain ⟨b, c, _, rfl⟩ := h; rfl
  | fn f φ => obtain ⟨rfl, _⟩ := h; rfl
  | tr m t =>
    cases m with
    | own => obtain ⟨as, h, _⟩ := h; exact h.isNon
    | bor => obtain ⟨as, h, _⟩ := h; exact h.isNon
    | held => obtain ⟨as, h, _⟩ := h; exact h.isNon
def wIsN (neg : Bool) (w : WE) : WE := fun ρ P Ex => w ρ (fun y => P (.d (.bool (neg ^^ isNon y)))) Ex
variable {W : WX} {ow0 : List Addr} {Hb : Hp} {e : Expr} {we : WE} {pos : Pos}
theorem sim_isN {j p2} (h : SimE X W Z CL ow0 Hb e we) : SimE X W Z CL ow0 Hb (.Compare e [.Is] [.Constant .none j p2] pos) (wIsN false we) := by
  intro S ρ σ H ow P Ex Q r w g bd
  refine PEat.of (pe_cmp (pc_isN PEat.pe) rfl) (h S ρ σ H ow _ Ex _ r w (fun y v H' p e z h => ?_) bd)
  rw [h.isNon]
  rw [Bool.false_xor] at p
  exact (g.step e r.gr.fpo).sc p z fun _ => .bl _
theorem sim_notN {j p2} (h : SimE X W Z CL ow0 Hb e we) : SimE X W Z CL ow0 Hb (.Compare e [.IsNot] [.Constant .none j p2] pos) (wIsN true we) := by
  intro S ρ σ H ow P Ex Q r w g bd
  refine PEat.of (pe_cmp (pc_notN PEat.pe) rfl) (h S ρ σ H ow _ Ex _ r w (fun y v H' p e z h => ?_) bd)
  rw [h.isNon]
  rw [Bool.true_xor] at p
  exact (g.step e r.gr.fpo).sc p z fun _ => .bl _
/-- a < b < c, as a value -/
def wChain (op op2 : Op2) (wa wb wc : WE) : WE := fun ρ P Ex => wa ρ (fun x => wb ρ (fun y => op x y (fun k => match k with
  | .d (.bool true) => wc ρ (fun z => op2 y z P) Ex
  | .d (.bool false) => P (.d (.bool false))
  | _ => False)) Ex) Ex
theorem sim_chain {a b c : Expr} {wa wb wc : WE} {o o2 : CmpOp} {op op2 : Op2} (ho : OpR X (compareOp o) (rD CL Z X.K op)) (ho2 : OpR X (compareOp o2) (rD CL Z X.K op2)) (ha : SimE X W Z CL ow0 Hb a wa) (hb : SimE X W Z CL ow0 Hb b wb) (hc : SimE X W Z CL ow0 Hb c wc) 
    (hm : lastMarks [o, o2] [b, c] = false := by rfl) :
    SimE X W Z CL ow0 Hb (.Compare a [o, o2] [b, c] pos) (wChain op op2 wa wb wc) := by
  intro S ρ σ H ow P Ex Q r w g bd
  refine PEat.of (pe_chain ho ho2 PEat.pe PEat.pe PEat.pe hm) ?_
  refine two ha hb r bd w fun x y v u H' q e z h1 h2 => ⟨ow, H, x, y, _, r.gr.step e z, h1, h2, q, fun k t H'' p' e' z' q' => ?_⟩
  cases k with
  | d k =>
    cases k with
    | bool k =>
      cases (q' : Dt X.K (hid ow H'') t (.bool k))
      refine ⟨k, rfl, ?_⟩
      cases k with
      | true =>
        refine hc S ρ σ H'' ow _ Ex _ (r.step (e.trans e') z') p' (fun y3 v3 H3 p3 e3 z3 h3 => ?_) (bd.step (e.trans e'))
        exact ⟨ow, H, y, y3, P, r.gr.step ((e.trans e').trans e3) z3, h2.stay (e'.trans e3) r.gr.fpo, h3.back (e.trans e') r.gr.fpo, p3, g.step ((e.trans e').trans e3) r.gr.fpo⟩
      | false => exact (g.step (e.trans e') r.gr.fpo).sc p' z' fun _ => .bl _
    | _ => exact (p' : False).elim
  | _ => exact (p' : False).elim
end
end Pd

/-! Pd4: arguments, displays, calls of built-ins, subscripts, slices over data. -/
namespace Pd
open PySem PySem.Spec PyProof.Rows L2
section
variable {CL : Calls} {Z : Ext} {K : PySem.W.Frag} {ow : List Addr} {H0 H H' : Hp}
theorem RVs.stay : ∀ {vs : List V} {ys : List Val}, RVs Z CL K ow H0 H vs ys → SameBut (fp Z) H H' → (∀ a ∈ fp Z, a ∈ ow) → RVs Z CL K ow H0 H' vs ys
  | _, _, .nil, _, _ => .nil
  | _, _, .cons h t, e, f => .cons (h.stay e f) (RVs.stay t e f)
theorem RVs.back : ∀ {vs : List V} {ys : List Val} {H1 : Hp}, RVs Z CL K ow H1 H vs ys → SameBut (fp Z) H0 H1 → (∀ a ∈ fp Z, a ∈ ow) → RVs Z CL K ow H0 H vs ys
  | _, _, _, .nil, _, _ => .nil
  | _, _, _, .cons h t, e, f => .cons (h.back e f) (RVs.back t e f)
theorem RVs.length : ∀ {vs : List V} {ys : List Val}, RVs Z CL K ow H0 H vs ys → vs.length = ys.length
  | _, _, .nil => rfl
  | _, _, .cons _ t => by simp [RVs.length t]
/-- all, as data to be kept -/
def keeps : List Val → Option (List D)
  | [] => some []
  | y :: ys => match y.kp, keeps ys with
    | some d, some ds => some (d :: ds)
    | _, _ => none
theorem RVs.keeps : ∀ {vs : List V} {ys : List Val} {ds : List D}, RVs Z CL K ow H0 H vs ys → keeps ys = some ds → DtAll K (hid ow H) vs ds
  | _, _, _, .nil, e => by cases e; exact .nil
  | _, _ :: ys, ds, .cons (y := y) h t, e => by
    unfold Pd.keeps at e
    cases e1 : y.kp with
    | none => rw [e1] at e; cases e
    | some d =>
      cases e2 : Pd.keeps ys with
      | none => rw [e1, e2] at e; cases e
      | some es =>
        rw [e1, e2] at e
        cases e
        exact .cons (h.kp e1) (RVs.keeps t e2)
end

section
variable {X : Cx} {W : WX} {Z : Ext} {CL : Calls} {ow0 : List Addr} {Hb : Hp}
/-! ### arguments -/
def wNil : WA := fun _ P _ => P []
def wCons (w : WE) (ws : WA) : WA := fun ρ P Ex => w ρ (fun y => ws ρ (fun ys => P (y :: ys)) Ex) Ex
theorem sim_nil : SimA X W Z CL ow0 Hb [] wNil := fun S ρ σ H ow P Ex Q r w g b => PAat.of pa_nil (g [] [] H w (.refl _ _) r.gr.ext .nil)
theorem sim_cons {e : Expr} {es : List Expr} {we : WE} {ws : WA} (he : SimE X W Z CL ow0 Hb e we) (hs : SimA X W Z CL ow0 Hb es ws) (hst : starEach (e :: es) X.env = (false, eval e X.env) :: starEach es X.env := by rfl) : SimA X W Z CL ow0 Hb (e :: es) (wCons we ws) := by
  intro S ρ σ H ow P Ex Q r w g b
  refine PAat.of (pa_cons PEat.pe PAat.pa hst) (he S ρ σ H ow _ Ex _ r w (fun y v H1 p1 e1 z1 h1 => ?_) b)
  refine hs S ρ σ H1 ow _ Ex _ (r.step e1 z1) p1 (fun ys vs H2 p2 e2 z2 h2 => ?_) (b.step e1)
  exact g (y :: ys) (v :: vs) H2 p2 (e1.trans e2) z2 (.cons (h1.stay e2 r.gr.fpo) (h2.back e1 r.gr.fpo))
/-- *e among arguments or items -/
def wStar (w : WE) (ws : WA) : WA := fun ρ P Ex => w ρ (fun y => match y.rd with
  | some (.list ds) => ws ρ (fun ys => P (ds.map Val.d ++ ys)) Ex
  | some (.tuple ds) => ws ρ (fun ys => P (ds.map Val.d ++ ys)) Ex
  | _ => False) Ex
theorem RVs.ofAll {K : PySem.W.Frag} {ow : List Addr} {H0 H : Hp} : ∀ {vs : List V} {ds : List D}, DtAll K (hid ow H) vs ds → RVs Z CL K ow H0 H vs (ds.map Val.d)
  | _, _, .nil => .nil
  | _, _, .cons h t => .cons h (RVs.ofAll t)
theorem RVs.append {K : PySem.W.Frag} {ow : List Addr} {H0 H : Hp} : ∀ {vs ws : List V} {ys zs : List Val}, RVs Z CL K ow H0 H vs ys → RVs Z CL K ow H0 H ws zs → RVs Z CL K ow H0 H (vs ++ ws) (ys ++ zs)
  | _, _, _, _, .nil, s => s
  | _, _, _, _, .cons h t, s => .cons h (RVs.append t s)
theorem sim_star {e : Expr} {p : Pos} {es : List Expr} {we : WE} {ws : WA} (he : SimE X W Z CL ow0 Hb e we) (hs : SimA X W Z CL ow0 Hb es ws) (hst : starEach (.Starred e p :: es) X.env = (true, eval e X.env) :: starEach es X.env := by rfl) : SimA X W Z CL ow0 Hb (.Starred e p :: es) (wStar we ws) := by
  intro S ρ σ H ow P Ex Q r w g b
  refine PAat.of (StX.pa_star PEat.pe PAat.pa hst) (he S ρ σ H ow _ Ex _ r w (fun y v H1 p1 e1 z1 h1 => ?_) b)
  split at p1
  · rename_i ds ed
    obtain ⟨q, vs, rfl, hq, ha⟩ := h1.list ed
    refine ⟨q, vs, rfl, .inr (.inl (.of hq)), ?_⟩
    refine hs S ρ σ H1 ow _ Ex _ (r.step e1 z1) p1 (fun ys us H2 p2 e2 z2 h2 => ?_) (b.step e1)
    exact g _ _ H2 p2 (e1.trans e2) z2 (.append (.ofAll (DtAll.mono (hid_mono e2 r.gr.fpo fun _ m => .inl m) ha)) (h2.back e1 r.gr.fpo))
  · rename_i ds ed
    obtain ⟨q, vs, rfl, hq, ha⟩ := h1.tuple ed
    refine ⟨q, vs, rfl, .inl (hid_le.sqt hq), ?_⟩
    refine hs S ρ σ H1 ow _ Ex _ (r.step e1 z1) p1 (fun ys us H2 p2 e2 z2 h2 => ?_) (b.step e1)
    exact g _ _ H2 p2 (e1.trans e2) z2 (.append (.ofAll (DtAll.mono (hid_mono e2 r.gr.fpo fun _ m => .inl m) ha)) (h2.back e1 r.gr.fpo))
  · exact p1.elim

/-! ### displays -/
def wTup (w : WA) : WE := fun ρ P Ex => w ρ (fun ys => match keeps ys with
  | some ds => ds.length ≤ sizeLine ∧ P (.d (.tuple ds))
  | none => False) Ex
def wLst (w : WA) : WE := fun ρ P Ex => w ρ (fun ys => match keeps ys with
  | some ds => ds.length ≤ sizeLine ∧ P (.own ds)
  | none => False) Ex
theorem sim_tup {es : List Expr} {w : WA} {pos x1} (h : SimA X W Z CL ow0 Hb es w) : SimE X W Z CL ow0 Hb (.Tuple es x1 pos) (wTup w) := by
  intro S ρ σ H ow P Ex Q r w g b
  refine PEat.of (pe_tup PAat.pa) (h S ρ σ H ow _ Ex _ r w (fun ys vs H1 p1 e1 z1 h1 => ?_) b)
  split at p1
  · rename_i ds ed
    have ha := h1.keeps ed
    exact ⟨by rw [ha.length]; exact p1.1, fun p hp => (g.step e1 r.gr.fpo).tup p1.2 (r.gr.step e1 z1) hp ha⟩
  · exact p1.elim
theorem sim_lst {es : List Expr} {w : WA} {pos} (h : SimA X W Z CL ow0 Hb es w) : SimE X W Z CL ow0 Hb (.List es pos) (wLst w) := by
  intro S ρ σ H ow P Ex Q r w g b
  refine PEat.of (pe_lst PAat.pa) (h S ρ σ H ow _ Ex _ r w (fun ys vs H1 p1 e1 z1 h1 => ?_) b)
  split at p1
  · rename_i ds ed
    have ha := h1.keeps ed
    exact ⟨by rw [ha.length]; exact p1.1, fun p hp => (g.step e1 r.gr.fpo).lst p1.2 (r.gr.step e1 z1) hp ha⟩
  · exact p1.elim

/-! ### calls of built-ins -/
abbrev OpN := List Val → (Val → Prop) → Prop
def rC (CL : Calls) (Z : Ext) (K : PySem.W.Frag) (op : OpN) : List V → Hp → VK → Prop := fun vs H Q => ∃ ow H0 ys P, Gr Z ow H ∧ RVs Z CL K ow H0 H vs ys ∧ op ys P ∧ Gd CL Z K ow H P Q
def wCB (op : OpN) (w : WA) : WE := fun ρ P Ex => w ρ (fun ys => op ys P) Ex
theorem sim_callB {id : String} {x : Str} {p pos : Pos} {e : Expr} {es : List Expr} {w : WA} {op : OpN} (hc : CallR X (.builtin id) (rC CL Z X.K op)) (hg : Gl X x) (hm : X.mg x = none) (hv : bootBuiltins x = some (.builtin id)) (ha : SimA X W Z CL ow0 Hb (e :: es) w)
    (hn : x ≠ "__name__" := by decide) (hdb : (x == ("__debug__" : Str)) = false := by decide)
    (he : starEach (e :: es) X.env = (false, eval e X.env) :: starEach es X.env := by rfl) (hpl : (backTo pos (starEach es X.env)).any (·.1) = false := by rfl) : SimE X W Z CL ow0 Hb (.Call (.Name x p) (e :: es) [] pos) (wCB op w) := by
  intro S ρ σ H ow P Ex Q r w g b
  refine PEat.of (pe_callB hc hg hm hv PAat.pa hn hdb he hpl) (ha S ρ σ H ow _ Ex _ r w (fun ys vs H1 p1 e1 z1 h1 => ?_) b)
  exact ⟨ow, H, ys, P, r.gr.step e1 z1, h1, p1, g.step e1 r.gr.fpo⟩
theorem sim_callT {T : String} {x : Str} {p pos : Pos} {e : Expr} {es : List Expr} {w : WA} {op : OpN} (hc : CallR X (.type T) (rC CL Z X.K op)) (hg : Gl X x) (hm : X.mg x = none) (hv : bootBuiltins x = some (.type T)) (ha : SimA X W Z CL ow0 Hb (e :: es) w)
    (hn : x ≠ "__name__" := by decide) (hdb : (x == ("__debug__" : Str)) = false := by decide)
    (he : starEach (e :: es) X.env = (false, eval e X.env) :: starEach es X.env := by rfl) (hpl : (backTo pos (starEach es X.env)).any (·.1) = false := by rfl) : SimE X W Z CL ow0 Hb (.Call (.Name x p) (e :: es) [] pos) (wCB op w) := by
  intro S ρ σ H ow P Ex Q r w g b
  refine PEat.of (pe_callTy hc hg hm hv PAat.pa hn hdb he hpl) (ha S ρ σ H ow _ Ex _ r w (fun ys vs H1 p1 e1 z1 h1 => ?_) b)
  exact ⟨ow, H, ys, P, r.gr.step e1 z1, h1, p1, g.step e1 r.gr.fpo⟩
/-- one argument -/
def op1 (f : D → (Val → Prop) → Prop) : OpN := fun ys P => match ys with
  | [y] => match y.rd with
    | some d => f d P
    | none => False
  | _ => False
theorem one {K : PySem.W.Frag} {ow : List Addr} {H0 H : Hp} {vs : List V} {ys : List Val} {f : D → (Val → Prop) → Prop} {P : Val → Prop} (h : RVs Z CL K ow H0 H vs ys) (w : op1 f ys P) : ∃ v y d, vs = [v] ∧ RV CL Z K ow H0 H v y ∧ y.rd = some d ∧ f d P := by
  cases h with
  | nil => exact w.elim
  | cons h t =>
    cases t with
    | cons _ _ => exact w.elim
    | nil =>
      dsimp only [op1] at w
      split at w
      · rename_i d ed
        exact ⟨_, _, d, rfl, h, ed, w⟩
      · exact w.elim
def bLen : OpN := op1 fun d P => match d with
  | .str z => z.length ≤ sizeLine ∧ P (.d (.int z.length))
  | .list xs => P (.d (.int xs.length))
  | .tuple xs => P (.d (.int xs.length))
  | _ => False
theorem cd_len : CallR X (.builtin "len") (rC CL Z X.K bLen) := by
  intro pins s σ H vs us Q I rv h
  obtain ⟨ow, H0, ys, P, gr, hs, w, g⟩ := h
  obtain ⟨v, y, d, rfl, hy, ed, w⟩ := one hs w
  split at w
  · rename_i z
    rw [hy.str ed] at rv
    exact call_len pins s σ H _ us Q I rv ⟨_, z.length, rfl, ⟨w.1, rfl⟩, g.sc w.2 gr.ext fun _ => .int _⟩
  · rename_i xs
    obtain ⟨p, vs, rfl, hp, ha⟩ := hy.list ed
    exact call_len pins s σ H _ us Q I rv ⟨_, xs.length, rfl, .inl ⟨vs, .inl (.of hp), ha.length.symm⟩, g.sc w gr.ext fun _ => .int _⟩
  · rename_i xs
    obtain ⟨p, vs, rfl, hp, ha⟩ := hy.tuple ed
    exact call_len pins s σ H _ us Q I rv ⟨_, xs.length, rfl, .inr ⟨vs, hid_le.sqt hp, ha.length.symm⟩, g.sc w gr.ext fun _ => .int _⟩
  · exact w.elim
def bAbs : OpN := op1 fun d P => match d with
  | .int i => P (.d (.int (if i < 0 then -i else i)))
  | _ => False
theorem cd_abs : CallR X (.builtin "abs") (rC CL Z X.K bAbs) := by
  intro pins s σ H vs us Q I rv h
  obtain ⟨ow, H0, ys, P, gr, hs, w, g⟩ := h
  obtain ⟨v, y, d, rfl, hy, ed, w⟩ := one hs w
  split at w
  · rename_i z
    rw [hy.int ed] at rv
    exact call_abs pins s σ H _ us Q I rv ⟨_, rfl, g.sc w gr.ext fun _ => .int _⟩
  · exact w.elim
/-- two ints -/
def op2i (f : Int → Int → Int) : OpN := fun ys P => match ys with
  | [x, y] => match x.rd, y.rd with
    | some (.int i), some (.int j) => P (.d (.int (f i j)))
    | _, _ => False
  | _ => False
theorem twoI {K : PySem.W.Frag} {ow : List Addr} {H0 H : Hp} {vs : List V} {ys : List Val} {f : Int → Int → Int} {P : Val → Prop} (h : RVs Z CL K ow H0 H vs ys) (w : op2i f ys P) : ∃ i j, vs = [.int i, .int j] ∧ P (.d (.int (f i j))) := by
  cases h with
  | nil => exact w.elim
  | cons h t =>
    cases t with
    | nil => exact w.elim
    | cons h2 t2 =>
      cases t2 with
      | cons _ _ => exact w.elim
      | nil =>
        dsimp only [op2i] at w
        split at w
        · rename_i i j e1 e2
          exact ⟨i, j, by rw [h.int e1, h2.int e2], w⟩
        · exact w.elim
def bMax2 : OpN := op2i fun i j => if j > i then j else i
def bMin2 : OpN := op2i fun i j => if j < i then j else i
theorem cd_max2 (hc : X.calm = true) : CallR X (.builtin "max") (rC CL Z X.K bMax2) := by
  intro pins s σ H vs us Q I rv h
  obtain ⟨ow, H0, ys, P, gr, hs, w, g⟩ := h
  obtain ⟨i, j, rfl, w⟩ := twoI hs w
  exact call_max2 hc pins s σ H _ us Q I rv ⟨i, j, rfl, g.sc w gr.ext fun _ => .int _⟩
theorem cd_min2 (hc : X.calm = true) : CallR X (.builtin "min") (rC CL Z X.K bMin2) := by
  intro pins s σ H vs us Q I rv h
  obtain ⟨ow, H0, ys, P, gr, hs, w, g⟩ := h
  obtain ⟨i, j, rfl, w⟩ := twoI hs w
  exact call_min2 hc pins s σ H _ us Q I rv ⟨i, j, rfl, g.sc w gr.ext fun _ => .int _⟩
def bInt : OpN := op1 fun d P => match d with
  | .int i => P (.d (.int i))
  | .bool b => P (.d (.int (if b then 1 else 0)))
  | _ => False
theorem cd_int : CallR X (.type "int") (rC CL Z X.K bInt) := by
  intro pins s σ H vs us Q I rv h
  obtain ⟨ow, H0, ys, P, gr, hs, w, g⟩ := h
  obtain ⟨v, y, d, rfl, hy, ed, w⟩ := one hs w
  split at w
  · rw [hy.int ed] at rv
    exact call_int1 pins s σ H _ us Q I rv (.inl ⟨_, rfl, g.sc w gr.ext fun _ => .int _⟩)
  · rw [hy.bool ed] at rv
    exact call_int1 pins s σ H _ us Q I rv (.inr ⟨_, rfl, g.sc w gr.ext fun _ => .int _⟩)
  · exact w.elim
/-- tuple(a list or a tuple), list(..) -/
def bTuple : OpN := op1 fun d P => match d with
  | .list xs => P (.d (.tuple xs))
  | .tuple xs => P (.d (.tuple xs))
  | _ => False
theorem cd_tuple : CallR X (.type "tuple") (rC CL Z X.K bTuple) := by
  intro pins s σ H vs us Q I rv h
  obtain ⟨ow, H0, ys, P, gr, hs, w, g⟩ := h
  obtain ⟨v, y, d, rfl, hy, ed, w⟩ := one hs w
  split at w
  · obtain ⟨p, vs, rfl, hp, ha⟩ := hy.list ed
    exact call_tuple_of pins s σ H _ us Q I rv ⟨p, vs, rfl, .inl ⟨.inl (.of hp), fun l hl => g.tup w gr hl ha⟩⟩
  · obtain ⟨p, vs, rfl, hp, ha⟩ := hy.tuple ed
    exact call_tuple_of pins s σ H _ us Q I rv ⟨p, vs, rfl, .inr ⟨hid_le.sqt hp, g _ _ H w (.refl _ _) gr.ext (.tup hp ha)⟩⟩
  · exact w.elim
def bList : OpN := op1 fun d P => match d with
  | .list xs => P (.own xs)
  | .tuple xs => P (.own xs)
  | _ => False
theorem cd_list : CallR X (.type "list") (rC CL Z X.K bList) := by
  intro pins s σ H vs us Q I rv h
  obtain ⟨ow, H0, ys, P, gr, hs, w, g⟩ := h
  obtain ⟨v, y, d, rfl, hy, ed, w⟩ := one hs w
  split at w
  · obtain ⟨p, vs, rfl, hp, ha⟩ := hy.list ed
    exact call_list_of pins s σ H _ us Q I rv ⟨p, vs, rfl, .inl (.inl (.of hp)), fun l hl => g.lst w gr hl ha⟩
  · obtain ⟨p, vs, rfl, hp, ha⟩ := hy.tuple ed
    exact call_list_of pins s σ H _ us Q I rv ⟨p, vs, rfl, .inr (hid_le.sqt hp), fun l hl => g.lst w gr hl ha⟩
  · exact w.elim
/-- ints in a row -/
def intsOf : List D → Option (List Int)
  | [] => some []
  | .int i :: r => (intsOf r).map (i :: ·)
  | _ :: _ => none
theorem intsOf_eq : ∀ {xs : List D} {ns : List Int}, intsOf xs = some ns → xs = ns.map .int
  | [], _, e => by cases e; rfl
  | .int i :: r, ns, e => by
    unfold intsOf at e
    cases q : intsOf r with
    | none => rw [q] at e; cases e
    | some ms =>
      rw [q] at e
      cases e
      rw [intsOf_eq q]
      rfl
  | .none :: _, _, e => by cases e
  | .bool _ :: _, _, e => by cases e
  | .str _ :: _, _, e => by cases e
  | .list _ :: _, _, e => by cases e
  | .tuple _ :: _, _, e => by cases e
  | .dict _ :: _, _, e => by cases e
theorem intsOf_map : ∀ ns : List Int, intsOf (ns.map .int) = some ns
  | [] => rfl
  | n :: ns => by
    show (intsOf (ns.map .int)).map (n :: ·) = _
    rw [intsOf_map ns]
    rfl
def boolsOf : List D → Option (List Bool)
  | [] => some []
  | .bool i :: r => (boolsOf r).map (i :: ·)
  | _ :: _ => none
theorem boolsOf_eq : ∀ {xs : List D} {ns : List Bool}, boolsOf xs = some ns → xs = ns.map .bool
  | [], _, e => by cases e; rfl
  | .bool i :: r, ns, e => by
    unfold boolsOf at e
    cases q : boolsOf r with
    | none => rw [q] at e; cases e
    | some ms =>
      rw [q] at e
      cases e
      rw [boolsOf_eq q]
      rfl
  | .none :: _, _, e => by cases e
  | .int _ :: _, _, e => by cases e
  | .str _ :: _, _, e => by cases e
  | .list _ :: _, _, e => by cases e
  | .tuple _ :: _, _, e => by cases e
  | .dict _ :: _, _, e => by cases e
theorem boolsOf_map : ∀ ns : List Bool, boolsOf (ns.map .bool) = some ns
  | [] => rfl
  | n :: ns => by
    show (boolsOf (ns.map .bool)).map (n :: ·) = _
    rw [boolsOf_map ns]
    rfl
def bAll : OpN := op1 fun d P => match d with
  | .list xs => match boolsOf xs with
    | some bs => P (.d (.bool (bs.all id)))
    | none => False
  | _ => False
theorem cd_all (hc : X.calm = true) : CallR X (.builtin "all") (rC CL Z X.K bAll) := by
  intro pins s σ H vs us Q I rv h
  obtain ⟨ow, H0, ys, P, gr, hs, w, g⟩ := h
  obtain ⟨v, y, d, rfl, hy, ed, w⟩ := one hs w
  split at w
  · split at w
    · rename_i xs bs e
      obtain ⟨p, vs, rfl, hp, ha⟩ := hy.list ed
      rw [boolsOf_eq e] at ha
      rw [ha.bools] at hp
      exact cr_all hc pins s σ H _ us Q I rv ⟨p, bs, rfl, .inl (.of hp), g.sc w gr.ext fun _ => .bl _⟩
    · exact w.elim
  · exact w.elim
def bAny : OpN := op1 fun d P => match d with
  | .list xs => match boolsOf xs with
    | some bs => P (.d (.bool (bs.any id)))
    | none => False
  | _ => False
theorem cd_any (hc : X.calm = true) : CallR X (.builtin "any") (rC CL Z X.K bAny) := by
  intro pins s σ H vs us Q I rv h
  obtain ⟨ow, H0, ys, P, gr, hs, w, g⟩ := h
  obtain ⟨v, y, d, rfl, hy, ed, w⟩ := one hs w
  split at w
  · split at w
    · rename_i xs bs e
      obtain ⟨p, vs, rfl, hp, ha⟩ := hy.list ed
      rw [boolsOf_eq e] at ha
      rw [ha.bools] at hp
      exact cr_any hc pins s σ H _ us Q I rv ⟨p, bs, rfl, .inl (.of hp), g.sc w gr.ext fun _ => .bl _⟩
    · exact w.elim
  · exact w.elim
/-- sum of ints -/
def bSum : OpN := op1 fun d P => match d with
  | .list xs => match intsOf xs with
    | some ns => P (.d (.int ns.sum))
    | none => False
  | .tuple xs => match intsOf xs with
    | some ns => P (.d (.int ns.sum))
    | none => False
  | _ => False
theorem sum_tup {pins : List (Addr × Obj)} {σ : L2.St} {s : Shared} {H : Hp} {p : Addr} {ns : List Int} {Q : VK} (hc : X.calm = true) (I : Inv X pins σ H s) (h : SqT X.K H p (ns.map V.int)) (q : Q (.int ns.sum) H) : wpAny (model X.prog X.w) X.A (call (.builtin "sum") [.ref p]) (EP X pins σ Q) X.xe s := by
  obtain ⟨its, rv, hl, _⟩ := I.tuple h
  have hi := rv.ints
  obtain ⟨xs, hx⟩ := hi.allInts.items
  have hn : numsOf its.toArray.toList = ns := by rw [show its.toArray.toList = its from rfl, hi.numsOf]
  have hl : s.heap.IsTuple p its.toArray := hl
  rw [hx] at hl hn
  rw [nums_intItems] at hn
  refine PySem.W.ktm_sumG (I.ok.hd hc) hl fun h' tk t' hk => ⟨.int _, H, I.kept hk, ⟨t', ?_⟩, q⟩
  rw [preSum_eq, List.take_of_length_le (by simp), hn]
theorem cd_sum (hc : X.calm = true) : CallR X (.builtin "sum") (rC CL Z X.K bSum) := by
  intro pins s σ H vs us Q I rv h
  obtain ⟨ow, H0, ys, P, gr, hs, w, g⟩ := h
  obtain ⟨v, y, d, rfl, hy, ed, w⟩ := one hs w
  split at w
  · split at w
    · rename_i xs bs e
      obtain ⟨p, vs, rfl, hp, ha⟩ := hy.list ed
      rw [intsOf_eq e] at ha
      rw [ha.ints] at hp
      exact cr_sum hc pins s σ H _ us Q I rv ⟨p, bs, rfl, .inl (.of hp), g.sc w gr.ext fun _ => .int _⟩
    · exact w.elim
  · split at w
    · rename_i xs bs e
      obtain ⟨p, vs, rfl, hp, ha⟩ := hy.tuple ed
      rw [intsOf_eq e] at ha
      rw [ha.ints] at hp
      rw [Vals.ref1 rv]
      exact sum_tup hc I (hid_le.sqt hp) (g.sc w gr.ext fun _ => .int _)
    · exact w.elim
  · exact w.elim
/-! ### isinstance -/
def wIsi (f : D → Bool) (w : WE) : WE := fun ρ P Ex => w ρ (fun y => match y.rd with
  | some d => P (.d (.bool (f d)))
  | none => False) Ex
end
end Pd

/-! Pd5: isinstance, repr, sorted, subscripts, slices over data. -/
namespace Pd
open PySem PySem.Spec PyProof.Rows L2
section
variable {X : Cx} {W : WX} {Z : Ext} {CL : Calls} {ow0 : List Addr} {Hb : Hp}
/-! ### isinstance of data by a built-in class -/
def rIs (CL : Calls) (Z : Ext) (K : PySem.W.Frag) (T : String) (f : D → Bool) : List V → Hp → VK → Prop := fun xs H Q => ∃ v d, xs = [v, .ty T] ∧ Dt K H v d ∧ Q (.bl (f d)) H
def isIntD : D → Bool
  | .int _ => true
  | .bool _ => true
  | _ => false
def isBoolD : D → Bool
  | .bool _ => true
  | _ => false
def isStrD : D → Bool
  | .str _ => true
  | _ => false
def isTupleD : D → Bool
  | .tuple _ => true
  | _ => false
def isListD : D → Bool
  | .list _ => true
  | _ => false
theorem ci_int : CallR X (.builtin "isinstance") (rIs CL Z X.K "int" isIntD) := by
  intro pins s σ H xs us Q I r h
  obtain ⟨v, d, rfl, hd, q⟩ := h
  cases r with
  | cons r1 r2 =>
    cases r2 with
    | cons r2 r3 =>
      cases r3
      cases r2
      obtain ⟨as, rd⟩ := Dp.reads I d v _ hd.dp r1
      exact PySem.W.isinstance_int_data rd fun tk _ => ⟨.bl (isIntD d), H, I.tok tk, by cases d <;> rfl, q⟩
theorem ci_bool : CallR X (.builtin "isinstance") (rIs CL Z X.K "bool" isBoolD) := by
  intro pins s σ H xs us Q I r h
  obtain ⟨v, d, rfl, hd, q⟩ := h
  cases r with
  | cons r1 r2 =>
    cases r2 with
    | cons r2 r3 =>
      cases r3
      cases r2
      obtain ⟨as, rd⟩ := Dp.reads I d v _ hd.dp r1
      exact PySem.W.isinstance_bool_data rd fun tk _ => ⟨.bl (isBoolD d), H, I.tok tk, by cases d <;> rfl, q⟩
theorem ci_str : CallR X (.builtin "isinstance") (rIs CL Z X.K "str" isStrD) := by
  intro pins s σ H xs us Q I r h
  obtain ⟨v, d, rfl, hd, q⟩ := h
  cases r with
  | cons r1 r2 =>
    cases r2 with
    | cons r2 r3 =>
      cases r3
      cases r2
      obtain ⟨as, rd⟩ := Dp.reads I d v _ hd.dp r1
      exact PySem.W.isinstance_str_data rd fun tk _ => ⟨.bl (isStrD d), H, I.tok tk, by cases d <;> rfl, q⟩
theorem ci_tuple : CallR X (.builtin "isinstance") (rIs CL Z X.K "tuple" isTupleD) := by
  intro pins s σ H xs us Q I r h
  obtain ⟨v, d, rfl, hd, q⟩ := h
  cases r with
  | cons r1 r2 =>
    cases r2 with
    | cons r2 r3 =>
      cases r3
      cases r2
      obtain ⟨as, rd⟩ := Dp.reads I d v _ hd.dp r1
      exact PySem.W.isinstance_tuple_data rd fun tk _ => ⟨.bl (isTupleD d), H, I.tok tk, by cases d <;> rfl, q⟩
theorem ci_list : CallR X (.builtin "isinstance") (rIs CL Z X.K "list" isListD) := by
  intro pins s σ H xs us Q I r h
  obtain ⟨v, d, rfl, hd, q⟩ := h
  cases r with
  | cons r1 r2 =>
    cases r2 with
    | cons r2 r3 =>
      cases r3
      cases r2
      obtain ⟨as, rd⟩ := Dp.reads I d v _ hd.dp r1
      exact PySem.W.isinstance_list_data rd fun tk _ => ⟨.bl (isListD d), H, I.tok tk, by cases d <;> rfl, q⟩
theorem sim_isi {T : String} {f : D → Bool} {t : Str} {p pt pos : Pos} {e : Expr} {we : WE} (hc : CallR X (.builtin "isinstance") (rIs CL Z X.K T f)) (hg : Gl X "isinstance") (hm : X.mg "isinstance" = none) (ht : Gl X t) (hmt : X.mg t = none) (hv : bootBuiltins t = some (.type T))
    (h : SimE X W Z CL ow0 Hb e we) (hn : t ≠ "__name__" := by decide) (hdb : (t == ("__debug__" : Str)) = false := by decide)
    (hst : starEach [e, .Name t pt] X.env = (false, eval e X.env) :: starEach [.Name t pt] X.env := by rfl) (hpl : (backTo pos (starEach [.Name t pt] X.env)).any (·.1) = false := by rfl)
    (hbi : bootBuiltins "isinstance" = some (.builtin "isinstance") := by decide +kernel) : SimE X W Z CL ow0 Hb (.Call (.Name "isinstance" p) [e, .Name t pt] [] pos) (wIsi f we) := by
  intro S ρ σ H ow P Ex Q r w g b
  refine PEat.of (pe_callB hc hg hm hbi (pa_cons PEat.pe (pa_cons (pe_bltn (v := .ty T) ht hmt hv rfl hn hdb) pa_nil) hst) (by decide) (by decide) hst hpl) ?_
  refine h S ρ σ H ow _ Ex _ r w (fun y v H1 p1 e1 z1 h1 => ?_) b
  split at p1
  · rename_i d ed
    exact ⟨v, d, rfl, h1.rd ed, (g.step e1 r.gr.fpo).sc p1 z1 fun _ => .bl _⟩
  · exact p1.elim

/-! ### repr -/
def bRepr : OpN := op1 fun d P => d.showable = true ∧ d.shown.length ≤ sizeLine ∧ d.depth ≤ 100 ∧ P (.d (.str d.shown))
mutual
theorem noDict : ∀ {d : D}, d.plain = true → d.hasDict = false
  | .none, _ => by simp only [PyData.hasDict]
  | .bool _, _ => by simp only [PyData.hasDict]
  | .int _, _ => by simp only [PyData.hasDict]
  | .str _, _ => by simp only [PyData.hasDict]
  | .list xs, h => by simp only [PyData.hasDict]; exact noDicts (by simpa [PyData.plain] using h)
  | .tuple xs, h => by simp only [PyData.hasDict]; exact noDicts (by simpa [PyData.plain] using h)
  | .dict _, h => by simp [PyData.plain] at h
theorem noDicts : ∀ {ds : List D}, PyData.plainAll ds = true → PyData.hasDictAll ds = false
  | [], _ => by simp only [PyData.hasDictAll]
  | x :: xs, h => by
    simp only [PyData.plainAll, Bool.and_eq_true] at h
    simp only [PyData.hasDictAll, noDict h.1, noDicts h.2, Bool.or_self]
end
theorem cd_repr (hg : X.A.guards = some []) (hu : X.A.units + 200 < cLine) : CallR X (.builtin "repr") (rC CL Z X.K bRepr) := by
  intro pins s σ H vs us Q I rv h
  obtain ⟨ow, H0, ys, P, gr, hs, w, g⟩ := h
  obtain ⟨v, y, d, rfl, hy, ed, w1, w2, w3, w⟩ := one hs w
  cases rv with
  | cons r1 r2 =>
    cases r2
    rename_i u
    obtain ⟨as, rd⟩ := hy.reads I ed r1
    have fin : ∀ h' tk t', (∀ b o, s.heap.get? b = some o → h'.get? b = some o) → EP X pins σ Q (.str d.shown t') { s with heap := h', toks := tk } := fun h' tk t' hk => ⟨.str _, H, I.kept hk, ⟨t', rfl⟩, g.sc w gr.ext fun _ => .str _⟩
    have hd := noDict (hy.plain ed)
    cases d with
    | none =>
      cases rd
      exact PySem.P.repr_of_none (by simpa [PyData.shown] using fin s.heap (s.toks + 1) s.toks fun _ _ e => e)
    | bool b =>
      cases rd
      exact PySem.P.repr_of_bool (by simpa [PyData.shown] using fin s.heap (s.toks + 1) s.toks fun _ _ e => e)
    | int i =>
      cases rd
      exact PySem.P.repr_of_int (by simpa [PyData.showable] using w1) (by simpa [PyData.shown] using fin s.heap (s.toks + 1) s.toks fun _ _ e => e)
    | str z =>
      cases rd
      exact PySem.P.repr_of_str (by simpa [PyData.shown] using fin s.heap (s.toks + 1) s.toks fun _ _ e => e) (by simpa [PyData.shown] using w2)
    | list xs =>
      cases rd with
      | list h1 h2 h3 h4 => exact repr_of_reads' (.list h1 h2 h3 h4) w1 (fun z => by rw [hd] at z; cases z) hg (by omega) (fun _ _ e => e) (fun h' u tk hk => fin h' tk u hk) w2
    | tuple xs =>
      cases rd with
      | tuple h1 h2 h3 h4 => exact repr_of_reads' (.tuple h1 h2 h3 h4) w1 (fun z => by rw [hd] at z; cases z) hg (by omega) (fun _ _ e => e) (fun h' u tk hk => fin h' tk u hk) w2
    | dict _ => exact absurd (hy.plain ed) (by simp [PyData.plain])
/-! ### subscripts -/
def opIx : Op2 := fun a b P => match a.rd, b.rd with
  | some (.list xs), some (.int i) => match atI xs i with
    | some d => P (.d d)
    | none => False
  | some (.tuple xs), some (.int i) => match atI xs i with
    | some d => P (.d d)
    | none => False
  | some (.str z), some (.int i) => z.length ≤ sizeLine ∧ match atI z.cps.toList i with
    | some c => P (.d (.str ⟨#[c]⟩))
    | none => False
  | _, _ => False
theorem DtAll.atI {K : PySem.W.Frag} {H : Hp} {vs : List V} {ds : List D} {i : Int} {d : D} (h : DtAll K H vs ds) (e : L2.atI ds i = some d) : ∃ v, L2.atI vs i = some v ∧ Dt K H v d := by
  unfold L2.atI at e ⊢
  rw [h.length]
  cases q : ixN ds.length i with
  | none => rw [q] at e; cases e
  | some j =>
    rw [q] at e
    exact h.get e
theorem ir_ix : IxR X (rD CL Z X.K opIx) := by
  intro value slice pins s σ H x y v u Q I rx ry h hs
  obtain ⟨ow, H0, a, b, P, gr, ha, hb, w, g⟩ := h
  unfold opIx at w
  split at w
  · rename_i xs i e1 e2
    split at w
    · rename_i d ed
      obtain ⟨p, vs, rfl, hp, hA⟩ := ha.list e1
      rw [hb.int e2] at ry
      obtain ⟨z, h1, h2⟩ := hA.atI ed
      exact ix_list value slice pins s σ H _ _ v u Q I rx ry ⟨p, vs, i, z, rfl, rfl, .inl (.of hp), h1, g _ _ H w (.refl _ _) gr.ext h2⟩ hs
    · exact w.elim
  · rename_i xs i e1 e2
    split at w
    · rename_i d ed
      obtain ⟨p, vs, rfl, hp, hA⟩ := ha.tuple e1
      rw [hb.int e2] at ry
      obtain ⟨z, h1, h2⟩ := hA.atI ed
      exact ix_tup value slice pins s σ H _ _ v u Q I rx ry ⟨p, vs, i, z, rfl, rfl, hid_le.sqt hp, h1, g _ _ H w (.refl _ _) gr.ext h2⟩ hs
    · exact w.elim
  · rename_i z i e1 e2
    obtain ⟨wl, w⟩ := w
    split at w
    · rename_i c ec
      rw [ha.str e1] at rx
      rw [hb.int e2] at ry
      exact ix_str value slice pins s σ H _ _ v u Q I rx ry ⟨z, i, c, rfl, rfl, wl, ec, g.sc w gr.ext fun _ => .str _⟩ hs
    · exact w.elim
  · exact w.elim
theorem sim_ix {ea eb : Expr} {wa wb : WE} {pos : Pos} (ha : SimE X W Z CL ow0 Hb ea wa) (hb : SimE X W Z CL ow0 Hb eb wb) (hs : PlainIx eb := by intro _ _; rfl) : SimE X W Z CL ow0 Hb (.Subscript ea eb pos) (wOp opIx wa wb) := by
  intro S ρ σ H ow P Ex Q r w g b
  refine PEat.of (pe_ix (ir_ix (Z := Z) (CL := CL)) PEat.pe PEat.pe hs) ?_
  exact two ha hb r b w fun x y v u H' q e z h1 h2 => ⟨ow, H, x, y, P, r.gr.step e z, h1, h2, q, g.step e r.gr.fpo⟩

/-! ### slices -/
abbrev WO := Ev → (Option Int → Prop) → (Xn → Prop) → Prop
structure POat (X : Cx) (e : Option Expr) (σ : L2.St) (H : Hp) (Q : (Option Int → Hp → Prop)) : Prop where
  go : ∀ pins s, Inv X pins σ H s → wpAny (model X.prog X.w) X.A (evalPart e X.env) (fun u s' => ∃ o H', Inv X pins σ H' s' ∧ IsPart u o ∧ Q o H') X.xe s
theorem POat.po {e : Option Expr} : PO X e (POat X e) := ⟨fun pins s σ H Q I h => h.go pins s I⟩
theorem POat.of {e : Option Expr} {t : TO} (h : PO X e t) {σ : L2.St} {H : Hp} {Q : Option Int → Hp → Prop} (q : t σ H Q) : POat X e σ H Q := ⟨fun pins s I => h.run pins s σ H Q I q⟩
def SimO (X : Cx) (W : WX) (Z : Ext) (CL : Calls) (ow0 : List Addr) (Hb : Hp) (e : Option Expr) (w : WO) : Prop := ∀ (S : Hp) (ρ : Ev) (σ : L2.St) (H : Hp) (ow : List Addr) (P : Option Int → Prop) (Ex : Xn → Prop) (Q : Option Int → Hp → Prop),
  Rel CL Z X.K ow0 Hb S ρ σ H ow → w ρ P Ex → (∀ o H', P o → SameBut (fp Z) H H' → RZ Z H' → Q o H') → Bd Z X.K ow X.mg W σ H Ex → POat X e σ H Q
def wNo : WO := fun _ P _ => P none
def wSo (w : WE) : WO := fun ρ P Ex => w ρ (fun y => match y.rd with
  | some (.int i) => P (some i)
  | _ => False) Ex
theorem sim_no : SimO X W Z CL ow0 Hb none wNo := fun S ρ σ H ow P Ex Q r w g b => POat.of po_none (g none H w (.refl _ _) r.gr.ext)
theorem sim_so {e : Expr} {we : WE} (h : SimE X W Z CL ow0 Hb e we) : SimO X W Z CL ow0 Hb (some e) (wSo we) := by
  intro S ρ σ H ow P Ex Q r w g b
  refine POat.of (po_some PEat.pe) (h S ρ σ H ow _ Ex _ r w (fun y v H1 p1 e1 z1 h1 => ?_) b)
  split at p1
  · rename_i i ei
    exact ⟨i, h1.int ei, g _ _ p1 e1 z1⟩
  · exact p1.elim
def cutG {α : Type} (xs : List α) (lo hi : Option Int) : List α := (xs.drop (HT.sIx xs.length 0 lo)).take (HT.sIx xs.length xs.length hi - HT.sIx xs.length 0 lo)
theorem DtAll.cut {K : PySem.W.Frag} {H : Hp} {vs : List V} {ds : List D} (h : DtAll K H vs ds) (lo hi : Option Int) : DtAll K H (cutV vs lo hi) (cutG ds lo hi) := by
  unfold cutV cutG
  rw [h.length]
  exact (h.drop _).take _
def opSl (a : Val) (lo hi : Option Int) (P : Val → Prop) : Prop := match a.rd with
  | some (.list xs) => P (.own (cutG xs lo hi))
  | some (.tuple xs) => P (.d (.tuple (cutG xs lo hi)))
  | some (.str z) => z.length ≤ sizeLine ∧ P (.d (.str (cutS z lo hi)))
  | _ => False
def wSl (w : WE) (wl wh : WO) : WE := fun ρ P Ex => w ρ (fun x => wl ρ (fun lo => wh ρ (fun hi => opSl x lo hi P) Ex) Ex) Ex
theorem cut_whole {α : Type} {xs : List α} {lo hi : Option Int} (h : HT.sIx xs.length 0 lo = 0 ∧ HT.sIx xs.length xs.length hi = xs.length) : cutG xs lo hi = xs := by
  unfold cutG
  rw [h.1, h.2]
  simp
theorem sr_sl : SlR X (fun v lo hi H Q => ∃ ow H0 a P, Gr Z ow H ∧ RV CL Z X.K ow H0 H v a ∧ opSl a lo hi P ∧ Gd CL Z X.K ow H P Q) := by
  intro pins s σ H x v vl vu lo hi sl Q I rx hs pl pu h
  obtain ⟨ow, H0, a, P, gr, ha, w, g⟩ := h
  unfold opSl at w
  split at w
  · rename_i xs e
    obtain ⟨p, vs, rfl, hp, hA⟩ := ha.list e
    exact sl_list pins s σ H _ v vl vu lo hi sl Q I rx hs pl pu ⟨p, vs, rfl, .inl (.of hp), fun q hq => g.lst w gr hq (hA.cut lo hi)⟩
  · rename_i xs e
    obtain ⟨p, vs, rfl, hp, hA⟩ := ha.tuple e
    refine sl_tupA pins s σ H _ v vl vu lo hi sl Q I rx hs pl pu ⟨p, vs, rfl, hid_le.sqt hp, fun z => ?_, fun _ q hq => g.tup w gr hq (hA.cut lo hi)⟩
    rw [hA.length] at z
    rw [cut_whole z] at w
    exact g _ _ H w (.refl _ _) gr.ext (.tup hp hA)
  · rename_i z e
    rw [ha.str e] at rx
    exact sl_str pins s σ H _ v vl vu lo hi sl Q I rx hs pl pu ⟨z, rfl, w.1, g.sc w.2 gr.ext fun _ => .str _⟩
  · exact w.elim
theorem sim_sl {e : Expr} {lo hi : Option Expr} {we : WE} {wl wh : WO} {p2 pos : Pos} (h : SimE X W Z CL ow0 Hb e we) (hl : SimO X W Z CL ow0 Hb lo wl) (hh : SimO X W Z CL ow0 Hb hi wh) : SimE X W Z CL ow0 Hb (.Subscript e (.Slice lo hi none p2) pos) (wSl we wl wh) := by
  intro S ρ σ H ow P Ex Q r w g b
  refine PEat.of (pe_slice (sr_sl (Z := Z) (CL := CL)) PEat.pe POat.po POat.po) ?_
  refine h S ρ σ H ow _ Ex _ r w (fun y v H1 p1 e1 z1 h1 => ?_) b
  refine hl S ρ σ H1 ow _ Ex _ (r.step e1 z1) p1 (fun lo H2 p2 e2 z2 => ?_) (b.step e1)
  refine hh S ρ σ H2 ow _ Ex _ (r.step (e1.trans e2) z2) p2 (fun hi H3 p3 e3 z3 => ?_) (b.step (e1.trans e2))
  exact ⟨ow, H, y, P, r.gr.step ((e1.trans e2).trans e3) z3, h1.stay (e2.trans e3) r.gr.fpo, p3, g.step ((e1.trans e2).trans e3) r.gr.fpo⟩
end
end Pd

/-! Pd6: statements over data: stores, branches, ends, lists that grow, raise. -/
namespace Pd
open PySem PySem.Spec PyProof.Rows L2

structure PSat (X : Cx) (st : Stmt) (D : L2.Ends) (σ : L2.St) (H : Hp) : Prop where
  go : ∀ pins s, Inv X pins σ H s → wpAny (model X.prog X.w) X.A (exec st X.env) (SP X pins D) X.xe s
theorem PSat.ps {X : Cx} {st : Stmt} : PS X st (PSat X st) := ⟨fun pins s σ H D I h => h.go pins s I⟩
theorem PSat.of {X : Cx} {st : Stmt} {t : TS} (h : PS X st t) {D : L2.Ends} {σ : L2.St} {H : Hp} (q : t D σ H) : PSat X st D σ H := ⟨fun pins s I => h.run pins s σ H D I q⟩
structure PSsat (X : Cx) (st : List Stmt) (D : L2.Ends) (σ : L2.St) (H : Hp) : Prop where
  go : ∀ pins s, Inv X pins σ H s → wpAny (model X.prog X.w) X.A (execs st X.env) (SP X pins D) X.xe s
theorem PSsat.ps {X : Cx} {st : List Stmt} : PSs X st (PSsat X st) := ⟨fun pins s σ H D I h => h.go pins s I⟩
theorem PSsat.of {X : Cx} {st : List Stmt} {t : TS} (h : PSs X st t) {D : L2.Ends} {σ : L2.St} {H : Hp} (q : t D σ H) : PSsat X st D σ H := ⟨fun pins s I => h.run pins s σ H D I q⟩

/-- as a def hands it back -/
def retOk : Val → Bool
  | .d _ => true
  | .own _ => true
  | .tr .own _ => true
  | _ => false
theorem RV.less {CL : Calls} {Z : Ext} {K : PySem.W.Frag} {ow ow' : List Addr} {H0 H : Hp} {v : V} {y : Val} (h : RV CL Z K ow H0 H v y) (ok : retOk y = true) (sub : ∀ a ∈ ow', a ∈ ow) : RV CL Z K ow' H0 H v y := by
  have ap : ∀ {as : List Addr}, ∀ a ∈ as ++ ow', a ∈ as ++ ow := fun a m => (List.mem_append.mp m).elim (List.mem_append_left _) fun z => List.mem_append_right _ (sub a z)
  cases y with
  | d x => exact Dt.mono (hid_less sub) h
  | own xs =>
    obtain ⟨p, vs, rfl, h0, n, hp, ha⟩ := h
    exact ⟨p, vs, rfl, h0, fun m => n (sub p m), hp, DtAll.mono (hid_less (ap (as := [p]))) ha⟩
  | tr m t =>
    cases m with
    | own =>
      obtain ⟨as, h1, h2, h3⟩ := h
      exact ⟨as, h1.mono (hid_less ap) fun _ _ _ _ q => q, h2, fun a m => ⟨(h3 a m).1, fun z => (h3 a m).2 (sub a z)⟩⟩
    | bor => cases ok
    | held => cases ok
  | bor xs => cases ok
  | bag => cases ok
  | fn f φ => cases ok
/-- what is wanted over data is what is wanted over the heap -/
structure DOK (X : Cx) (W : WX) (Z : Ext) (CL : Calls) (ow0 : List Addr) (Hb : Hp) (S : Hp) (E : En) (D : L2.Ends) : Prop where
  nx : ∀ ρ σ H ow, E.nx ρ → Rel CL Z X.K ow0 Hb S ρ σ H ow → D.nx σ H
  bk : ∀ ρ σ H ow, E.bk ρ → Rel CL Z X.K ow0 Hb S ρ σ H ow → D.bk σ H
  ct : ∀ ρ σ H ow, E.ct ρ → Rel CL Z X.K ow0 Hb S ρ σ H ow → D.ct σ H
  rt : ∀ y v ρ σ H ow, E.rt y ρ → Rel CL Z X.K ow0 Hb S ρ σ H ow → RV CL Z X.K ow Hb H v y → retOk y = true → D.rt v H
  ex : ∀ x ρ σ H ow cls d, E.ex x ρ → Rel CL Z X.K ow0 Hb S ρ σ H ow → ExR X.K ow X.mg x cls d H → W cls d σ H
section
variable (X : Cx) (W : WX) (Z : Ext) (CL : Calls) (ow0 : List Addr) (Hb : Hp)
def SimS (st : Stmt) (w : WS) : Prop := ∀ (S : Hp) (ρ : Ev) (σ : L2.St) (H : Hp) (ow : List Addr) (E : En) (D : L2.Ends),
  Rel CL Z X.K ow0 Hb S ρ σ H ow → w E ρ → DOK X W Z CL ow0 Hb S E D → PSat X st D σ H
def SimSs (st : List Stmt) (w : WS) : Prop := ∀ (S : Hp) (ρ : Ev) (σ : L2.St) (H : Hp) (ow : List Addr) (E : En) (D : L2.Ends),
  Rel CL Z X.K ow0 Hb S ρ σ H ow → w E ρ → DOK X W Z CL ow0 Hb S E D → PSsat X st D σ H
end
section
variable {X : Cx} {W : WX} {Z : Ext} {CL : Calls} {ow0 : List Addr} {Hb : Hp}
theorem DOK.bd {S : Hp} {E : En} {D : L2.Ends} (o : DOK X W Z CL ow0 Hb S E D) {ρ : Ev} {σ : L2.St} {H : Hp} {ow : List Addr} (r : Rel CL Z X.K ow0 Hb S ρ σ H ow) : Bd Z X.K ow X.mg W σ H (fun x => E.ex x ρ) :=
  fun x cls d H' p er e z => o.ex x ρ σ H' ow cls d p (r.step e z) er
theorem DOK.with {S : Hp} {E : En} {D : L2.Ends} (o : DOK X W Z CL ow0 Hb S E D) {n : Ev → Prop} {m : L2.St → Hp → Prop} (h : ∀ ρ σ H ow, n ρ → Rel CL Z X.K ow0 Hb S ρ σ H ow → m σ H) : DOK X W Z CL ow0 Hb S { E with nx := n } { D with nx := m } := ⟨h, o.bk, o.ct, o.rt, o.ex⟩
/-! ### blocks -/
def wSkip : WS := fun E ρ => E.nx ρ
def wSeq (a b : WS) : WS := fun E ρ => a { E with nx := fun ρ' => b E ρ' } ρ
theorem sim_bnil : SimSs X W Z CL ow0 Hb [] wSkip := fun S ρ σ H ow E D r w o => PSsat.of pss_nil (o.nx ρ σ H ow w r)
theorem sim_bcons {st : Stmt} {rest : List Stmt} {a b : WS} (h1 : SimS X W Z CL ow0 Hb st a) (h2 : SimSs X W Z CL ow0 Hb rest b) : SimSs X W Z CL ow0 Hb (st :: rest) (wSeq a b) := by
  intro S ρ σ H ow E D r w o
  refine PSsat.of (pss_cons PSat.ps PSsat.ps) ?_
  exact h1 S ρ σ H ow _ _ r w (o.with fun ρ' σ' H' ow' q r' => h2 S ρ' σ' H' ow' E D r' q o)
theorem sim_bone {st : Stmt} {a : WS} (h1 : SimS X W Z CL ow0 Hb st a) : SimSs X W Z CL ow0 Hb [st] a :=
  fun S ρ σ H ow E D r w o => PSsat.of (pss_one PSat.ps) (h1 S ρ σ H ow E D r w o)
theorem sim_pass {pos : Pos} : SimS X W Z CL ow0 Hb (.Pass pos) wSkip := fun S ρ σ H ow E D r w o => PSat.of ps_pass (o.nx ρ σ H ow w r)
def wBrk : WS := fun E ρ => E.bk ρ
def wCnt : WS := fun E ρ => E.ct ρ
theorem sim_break {pos : Pos} : SimS X W Z CL ow0 Hb (.Break pos) wBrk := fun S ρ σ H ow E D r w o => PSat.of ps_break (o.bk ρ σ H ow w r)
theorem sim_continue {pos : Pos} : SimS X W Z CL ow0 Hb (.Continue pos) wCnt := fun S ρ σ H ow E D r w o => PSat.of ps_continue (o.ct ρ σ H ow w r)
/-! ### return -/
def wRet (w : WE) : WS := fun E ρ => w ρ (fun y => match y.kp with
  | some d => E.rt (.d d) ρ
  | none => False) (fun x => E.ex x ρ)
/-- a new thing, handed back as such -/
def wRetO (w : WE) : WS := fun E ρ => w ρ (fun y => match y with
  | .own xs => E.rt (.own xs) ρ
  | .tr .own t => E.rt (.tr .own t) ρ
  | _ => False) (fun x => E.ex x ρ)
/-- what a slot owns, handed back -/
def wRetL (i : Nat) : WS := fun E ρ => match ρ[i]? with
  | some (some (.own xs)) => E.rt (.own xs) (ρ.set i none)
  | some (some (.tr .own t)) => E.rt (.tr .own t) (ρ.set i none)
  | _ => False
theorem sim_ret {e : Expr} {we : WE} {pos : Pos} (h : SimE X W Z CL ow0 Hb e we) : SimS X W Z CL ow0 Hb (.Return (some e) pos) (wRet we) := by
  intro S ρ σ H ow E D r w o
  refine PSat.of (ps_ret PEat.pe) (h S ρ σ H ow _ _ _ r w (fun y v H' p e z q => ?_) (o.bd r))
  split at p
  · rename_i d ed
    exact o.rt _ v ρ σ H' ow p (r.step e z) (q.kp ed) rfl
  · exact p.elim
theorem sim_retO {e : Expr} {we : WE} {pos : Pos} (h : SimE X W Z CL ow0 Hb e we) : SimS X W Z CL ow0 Hb (.Return (some e) pos) (wRetO we) := by
  intro S ρ σ H ow E D r w o
  refine PSat.of (ps_ret PEat.pe) (h S ρ σ H ow _ _ _ r w (fun y v H' p e z q => ?_) (o.bd r))
  split at p
  · exact o.rt _ v ρ σ H' ow p (r.step e z) (q.back r.sb r.gr.fpo) rfl
  · exact o.rt _ v ρ σ H' ow p (r.step e z) (q.back r.sb r.gr.fpo) rfl
  · exact p.elim
theorem SVF.rv {ow : List Addr} {H : Hp} {v : V} {y : Val} {as : List Addr} (h : SVF CL Z X.K ow Hb H v y as) (ok : retOk y = true) : RV CL Z X.K (ow.filter (· ∉ as)) Hb H v y := by
  have less : Le (hid ow H) (hid (ow.filter (· ∉ as)) H) := hid_less fun a m => (List.mem_filter.mp m).1
  have ap : ∀ {bs : List Addr}, (∀ a ∈ bs, a ∈ ow) → Le (hid ow H) (hid (bs ++ ow.filter (· ∉ as)) H) := fun hb => hid_less fun a m => (List.mem_append.mp m).elim (hb a) fun z => (List.mem_filter.mp z).1
  cases y with
  | d x => exact Dt.mono less h.2
  | own xs =>
    obtain ⟨p, vs, rfl, rfl, h0, n, nz, hp, ha⟩ := h
    exact ⟨p, vs, rfl, h0, fun m => by simpa using (List.mem_filter.mp m).2, hp, DtAll.mono (ap (bs := [p]) fun a m => by rw [List.mem_singleton.mp m]; exact n) ha⟩
  | tr m t =>
    cases m with
    | own => exact ⟨as, h.1.mono (ap fun a m => (h.2.2 a m).2.1) fun _ _ _ _ q => q, h.2.1, fun a m => ⟨(h.2.2 a m).1, fun z => by simpa [m] using (List.mem_filter.mp z).2⟩⟩
    | bor => cases ok
    | held => cases ok
  | bor xs => cases ok
  | bag => cases ok
  | fn f φ => cases ok
theorem sim_retL (i : Nat) {x : Str} {pos pos' : Pos} (g0 : Gr Z ow0 Hb) (hN : X.N[i]? = some x := by rfl) (hv : Vis X.env.scope x := by first | exact Or.inl rfl | exact Or.inr (Or.inl rfl) | exact Or.inr (Or.inr rfl)) (hd : (x == ("__debug__" : Str)) = false := by decide)
    (hcd : (x == ("__classdict__" : Str)) = false := by decide) : SimS X W Z CL ow0 Hb (.Return (some (.Name x pos)) pos') (wRetL i) := by
  intro S ρ σ H ow E D r w o
  have go : ∀ y, ρ[i]? = some (some y) → retOk y = true → E.rt y (ρ.set i none) → PSat X (.Return (some (.Name x pos)) pos') D σ H := fun y hy ok w => by
    obtain ⟨v, as, h1, h2, r'⟩ := r.free g0 hy
    exact PSat.of (ps_ret (pe_var hN hv hd hcd)) ⟨_, h1, o.rt _ _ _ σ H _ w r' (h2.rv ok) ok⟩
  unfold wRetL at w
  split at w
  · rename_i hy; exact go _ hy rfl w
  · rename_i hy; exact go _ hy rfl w
  · exact w.elim
def wRetN : WS := fun E ρ => E.rt (.d .none) ρ
theorem sim_retN {pos : Pos} : SimS X W Z CL ow0 Hb (.Return none pos) wRetN := fun S ρ σ H ow E D r w o => PSat.of ps_retN (o.rt _ _ ρ σ H ow w r .non rfl)
/-! ### if, expressions -/
def wIfS (wt : WT) (a b : WS) : WS := fun E ρ => wt ρ (fun c => if c = true then a E ρ else b E ρ) (fun x => E.ex x ρ)
theorem sim_if {c : Expr} {a b : List Stmt} {wt : WT} {wa wb : WS} {pos : Pos} (hc : SimT X W Z CL ow0 Hb c wt) (ha : SimSs X W Z CL ow0 Hb a wa) (hb : SimSs X W Z CL ow0 Hb b wb) : SimS X W Z CL ow0 Hb (.If c a b pos) (wIfS wt wa wb) := by
  intro S ρ σ H ow E D r w o
  refine PSat.of (ps_if PTat.pt PSsat.ps PSsat.ps) (hc S ρ σ H ow _ _ _ r w (fun k H' p e z => ?_) (o.bd r))
  cases k with
  | true => exact ha S ρ σ H' ow E D (r.step e z) p o
  | false => exact hb S ρ σ H' ow E D (r.step e z) p o
def wDo (w : WE) : WS := fun E ρ => w ρ (fun _ => E.nx ρ) (fun x => E.ex x ρ)
theorem sim_do {e : Expr} {we : WE} {pos : Pos} (h : SimE X W Z CL ow0 Hb e we) (hs : swapsWith e none pos.line X.env = pure false := by rfl) : SimS X W Z CL ow0 Hb (.Expr e pos) (wDo we) := by
  intro S ρ σ H ow E D r w o
  exact PSat.of (ps_expr PEat.pe hs) (h S ρ σ H ow _ _ _ r w (fun y v H' p e z q => o.nx ρ σ H' ow p (r.step e z)) (o.bd r))
/-! ### stores -/
/-- as a slot holds it -/
def slv : Val → Option Val
  | .bor _ => none
  | .tr .bor _ => none
  | y => some y
/-- what a value told owns is hidden from here on -/
theorem Rel.take {S : Hp} {ρ : Ev} {σ : L2.St} {H H1 : Hp} {ow : List Addr} {v : V} {y : Val} {F : Nat → List Addr} (r : Rel CL Z X.K ow0 Hb S ρ σ H ow) (f : Slots CL Z X.K ow Hb H ρ σ F) (e : SameBut (fp Z) H H1) (z : RZ Z H1) (h : RV CL Z X.K ow H H1 v y) (ok : slv y = some y) :
    ∃ ow1 as, Rel CL Z X.K ow0 Hb S ρ σ H1 ow1 ∧ Slots CL Z X.K ow1 Hb H1 ρ σ F ∧ (∀ a ∈ ow, a ∈ ow1) ∧ SVF CL Z X.K ow1 Hb H1 v y as ∧ ∀ a ∈ as, a ∉ ow := by
  have r1 := r.step e z
  have plain : SVF CL Z X.K ow Hb H1 v y [] → ∃ ow1 as, Rel CL Z X.K ow0 Hb S ρ σ H1 ow1 ∧ Slots CL Z X.K ow1 Hb H1 ρ σ F ∧ (∀ a ∈ ow, a ∈ ow1) ∧ SVF CL Z X.K ow1 Hb H1 v y as ∧ ∀ a ∈ as, a ∉ ow := fun q =>
    ⟨ow, [], r1, f.mono (fun i => e.agree fun a m => (f.in_ i a m).2.2) (hid_mono e r.gr.fpo fun a h => .inl h) fun i a m => (f.in_ i a m).2.1, fun _ m => m, q, fun a m => by cases m⟩
  have new : ∀ as : List Addr, (∀ a ∈ as, New H a ∧ a ∉ ow) → (∀ a ∈ as, ∃ o, NT o ∧ H1 a = some o) → SVF CL Z X.K (as ++ ow) Hb H1 v y as → ∃ ow1 as, Rel CL Z X.K ow0 Hb S ρ σ H1 ow1 ∧ Slots CL Z X.K ow1 Hb H1 ρ σ F ∧ (∀ a ∈ ow, a ∈ ow1) ∧ SVF CL Z X.K ow1 Hb H1 v y as ∧ ∀ a ∈ as, a ∉ ow := fun as n st q => by
    have grow : Le (hid ow H) (hid (as ++ ow) H1) := hid_mono e r.gr.fpo fun a m => (List.mem_append.mp m).elim (fun q => .inr (n a q).1) .inl
    have f' : Slots CL Z X.K (as ++ ow) Hb H1 ρ σ F := f.mono (fun i => e.agree fun a m => (f.in_ i a m).2.2) grow fun i a m => List.mem_append_right _ (f.in_ i a m).2.1
    refine ⟨as ++ ow, as, ⟨⟨z, fun a m => List.mem_append_right _ (r.gr.fpo a m), fun a m => ?_⟩, r.len, r1.sb, fun a m => List.mem_append_right _ (r.sub a m), r.mark.trans grow, r.held, F, f'⟩, f', fun a m => List.mem_append_right _ m, q, fun a m => (n a m).2⟩
    rcases List.mem_append.mp m with m | m
    · exact st a m
    · exact r1.gr.isS a m
  cases y with
  | bor xs => cases ok
  | own xs =>
    obtain ⟨p, vs, rfl, h0, n, hp, ha⟩ := h
    refine new [p] (fun a m => by rw [List.mem_singleton.mp m]; exact ⟨h0, n⟩) (fun a m => by rw [List.mem_singleton.mp m]; exact ⟨_, nt_lst, hp⟩) ⟨p, vs, rfl, rfl, r.sb.free (fun q => n (r.gr.fpo p q)) h0, List.mem_cons_self, fun q => n (r.gr.fpo p q), hp, ha⟩
  | d x => exact plain ⟨rfl, h⟩
  | bag => exact plain ⟨rfl, h⟩
  | fn f φ => exact plain ⟨rfl, h⟩
  | tr m t =>
    cases m with
    | own =>
      obtain ⟨as, h1, h2, h3⟩ := h
      exact new as h3 h1.there ⟨h1, h2, fun a m => ⟨r.sb.free (fun q => (h3 a m).2 (r.gr.fpo a q)) (h3 a m).1, List.mem_append_left _ m, fun q => (h3 a m).2 (r.gr.fpo a q)⟩⟩
    | bor => cases ok
    | held => exact plain ⟨rfl, h.choose, h.choose_spec.1⟩
theorem Rel.set {S : Hp} {ρ : Ev} {σ : L2.St} {H : Hp} {ow : List Addr} {i : Nat} {v : V} {y : Val} (r : Rel CL Z X.K ow0 Hb S ρ σ H ow) {H1 : Hp} (e : SameBut (fp Z) H H1) (z : RZ Z H1) (h : RV CL Z X.K ow H H1 v y) (hy : slv y = some y) :
    ∃ ow', Rel CL Z X.K ow0 Hb S (ρ.set i (some y)) (σ.set i (some v)) H1 ow' := by
  obtain ⟨F, f⟩ := r.own
  obtain ⟨ow1, as, r1, f1, _, h1, n⟩ := r.take f e z h hy
  exact ⟨ow1, r1.slotF f1 h1 fun j _ a m q => n a m (f.in_ j a q).2.1⟩
def wSet (i : Nat) (w : WE) : WS := fun E ρ => w ρ (fun y => match slv y with
  | some y => E.nx (ρ.set i (some y))
  | none => False) (fun x => E.ex x ρ)
theorem slv_eq {y z : Val} (h : slv y = some z) : z = y := by
  unfold slv at h
  split at h
  · cases h
  · cases h
  · exact (Option.some.inj h).symm
theorem sim_set (i : Nat) {x : Str} {e : Expr} {we : WE} {pos pos' : Pos} (h : SimE X W Z CL ow0 Hb e we) (hN : X.N.Nodup) (hi : X.N[i]? = some x := by rfl) (hx : Loc X.env.scope x := by first | exact Or.inl rfl | exact Or.inr rfl)
    (hs : swapsWith e (some (.Name x pos')) pos.line X.env = pure false := by rfl) (hf : X.fn x = true ∨ X.env.scope.names.lookup x = some .local := by first | exact .inl rfl | exact .inr rfl | assumption) :
    SimS X W Z CL ow0 Hb (.Assign [.Name x pos'] e pos) (wSet i we) := by
  intro S ρ σ H ow E D r w o
  refine PSat.of (ps_set hN hi hx PEat.pe hs hf) (h S ρ σ H ow _ _ _ r w (fun y v H' p e z q => ?_) (o.bd r))
  split at p
  · rename_i t et
    have et' := slv_eq et
    subst et'
    obtain ⟨ow', r'⟩ := r.set (i := i) e z q et
    exact o.nx _ _ H' ow' p r'
  · exact p.elim
end
end Pd

/-! Pd7: targets, what is walked, for, list comprehensions over data. -/
namespace Pd
open PySem PySem.Spec PyProof.Rows L2

/-! ### targets -/
abbrev WB := Ev → D → (Ev → Prop) → Prop
abbrev WBs := Ev → List D → (Ev → Prop) → Prop
structure PGat (X : Cx) (tg : Expr) (v : V) (σ : L2.St) (H : Hp) (Q : (L2.St → Hp → Prop)) : Prop where
  go : ∀ pins s u, Inv X pins σ H s → RelV v u → wpAny (model X.prog X.w) X.A (assign tg X.env u) (fun _ s' => ∃ σ' H', Inv X pins σ' H' s' ∧ Q σ' H') X.xe s
theorem PGat.pg {X : Cx} {tg : Expr} : PG X tg (PGat X tg) := ⟨fun pins s σ H v u Q I r h => h.go pins s u I r⟩
theorem PGat.of {X : Cx} {tg : Expr} {t : TG} (h : PG X tg t) {v : V} {σ : L2.St} {H : Hp} {Q : L2.St → Hp → Prop} (q : t v σ H Q) : PGat X tg v σ H Q := ⟨fun pins s u I r => h.run pins s σ H v u Q I r q⟩
structure PGsat (X : Cx) (ts : List Expr) (vs : List V) (σ : L2.St) (H : Hp) (Q : (L2.St → Hp → Prop)) : Prop where
  go : ∀ pins s us, Inv X pins σ H s → Vals vs us → wpAny (model X.prog X.w) X.A (assignInOrder ((assignEach ts X.env).map (·.2)) us) (fun _ s' => ∃ σ' H', Inv X pins σ' H' s' ∧ Q σ' H') X.xe s
theorem PGsat.pg {X : Cx} {ts : List Expr} : PGs X ts (PGsat X ts) := ⟨fun pins s σ H vs us Q I r h => h.go pins s us I r⟩
theorem PGsat.of {X : Cx} {ts : List Expr} {t : TGs} (h : PGs X ts t) {vs : List V} {σ : L2.St} {H : Hp} {Q : L2.St → Hp → Prop} (q : t vs σ H Q) : PGsat X ts vs σ H Q := ⟨fun pins s us I r => h.run pins s σ H vs us Q I r q⟩
/-- the slots that are not told stay -/
def Only (is : List Nat) (σ σ' : L2.St) : Prop := σ'.length = σ.length ∧ ∀ j, j ∉ is → σ'[j]? = σ[j]?
theorem Only.refl (is : List Nat) (σ : L2.St) : Only is σ σ := ⟨rfl, fun _ _ => rfl⟩
theorem Only.trans {is : List Nat} {a b c : L2.St} (x : Only is a b) (y : Only is b c) : Only is a c := ⟨y.1.trans x.1, fun j h => (y.2 j h).trans (x.2 j h)⟩
theorem Only.mono {is js : List Nat} {a b : L2.St} (x : Only is a b) (h : ∀ i ∈ is, i ∈ js) : Only js a b := ⟨x.1, fun j n => x.2 j fun m => n (h j m)⟩
/-- .. and no list is owned anew -/
def OnlyE (is : List Nat) (ρ : Ev) (σ : L2.St) (ρ' : Ev) (σ' : L2.St) : Prop := Only is σ σ' ∧ ∀ (j : Nat) (y : Val), ρ'[j]? = some (some y) → (∃ d, y = .d d) ∨ (ρ[j]? = some (some y) ∧ j ∉ is)
section
variable (X : Cx) (Z : Ext) (CL : Calls) (ow0 : List Addr) (Hb : Hp)
def SimB (tg : Expr) (b : WB) (is : List Nat) : Prop := ∀ (S : Hp) (ρ : Ev) (σ : L2.St) (H : Hp) (ow : List Addr) (d : D) (v : V) (k : Ev → Prop) (Q : L2.St → Hp → Prop),
  Rel CL Z X.K ow0 Hb S ρ σ H ow → Dt X.K (hid ow H) v d → b ρ d k → (∀ ρ' σ', k ρ' → Rel CL Z X.K ow0 Hb S ρ' σ' H ow → OnlyE is ρ σ ρ' σ' → Q σ' H) → PGat X tg v σ H Q
def SimBs (ts : List Expr) (b : WBs) (is : List Nat) : Prop := ∀ (S : Hp) (ρ : Ev) (σ : L2.St) (H : Hp) (ow : List Addr) (ds : List D) (vs : List V) (k : Ev → Prop) (Q : L2.St → Hp → Prop),
  Rel CL Z X.K ow0 Hb S ρ σ H ow → DtAll X.K (hid ow H) vs ds → b ρ ds k → (∀ ρ' σ', k ρ' → Rel CL Z X.K ow0 Hb S ρ' σ' H ow → OnlyE is ρ σ ρ' σ' → Q σ' H) → PGsat X ts vs σ H Q
end
section
variable {X : Cx} {W : WX} {Z : Ext} {CL : Calls} {ow0 : List Addr} {Hb : Hp}
theorem Rel.setD {S : Hp} {ρ : Ev} {σ : L2.St} {H : Hp} {ow : List Addr} {i : Nat} {v : V} {x : D} (r : Rel CL Z X.K ow0 Hb S ρ σ H ow) (h : Dt X.K (hid ow H) v x) : Rel CL Z X.K ow0 Hb S (ρ.set i (some (.d x))) (σ.set i (some v)) H ow :=
  r.slot0 ⟨rfl, h⟩
def bName (i : Nat) : WB := fun ρ d k => k (ρ.set i (some (.d d)))
theorem sim_bname (i : Nat) {x : Str} {pos : Pos} (hN : X.N.Nodup) (hi : X.N[i]? = some x := by rfl) (hx : Loc X.env.scope x := by first | exact Or.inl rfl | exact Or.inr rfl)
    (hf : X.fn x = true ∨ X.env.scope.names.lookup x = some .local := by first | exact .inl rfl | exact .inr rfl | assumption) : SimB X Z CL ow0 Hb (.Name x pos) (bName i) [i] := by
  intro S ρ σ H ow d v k Q r h w g
  refine PGat.of (pg_name hN hi hx hf) (g _ _ w (r.setD h) ⟨⟨by simp, fun j n => ?_⟩, fun j y q => ?_⟩)
  · rw [List.getElem?_set_ne (fun e => n (by simp [e]))]
  · rcases getSet q with ⟨_, z, _⟩ | ⟨n, z⟩
    · exact .inl ⟨d, Option.some.inj z⟩
    · exact .inr ⟨z, by simpa using n⟩
def bNil : WBs := fun ρ ds k => ds = [] ∧ k ρ
def bCons (b : WB) (bs : WBs) : WBs := fun ρ ds k => match ds with
  | d :: r => b ρ d fun ρ' => bs ρ' r k
  | [] => False
theorem sim_btnil : SimBs X Z CL ow0 Hb [] bNil [] := by
  intro S ρ σ H ow ds vs k Q r h w g
  obtain ⟨rfl, w⟩ := w
  cases h
  exact PGsat.of pgs_nil ⟨rfl, g _ _ w r ⟨.refl _ _, fun j y q => .inr ⟨q, by simp⟩⟩⟩
theorem sim_btcons {e : Expr} {es : List Expr} {b : WB} {bs : WBs} {is js : List Nat} (h1 : SimB X Z CL ow0 Hb e b is) (h2 : SimBs X Z CL ow0 Hb es bs js)
    (hs : (assignEach (e :: es) X.env).map (·.2) = assign e X.env :: (assignEach es X.env).map (·.2) := by rfl) : SimBs X Z CL ow0 Hb (e :: es) (bCons b bs) (is ++ js) := by
  intro S ρ σ H ow ds vs k Q r h w g
  cases h with
  | nil => exact (w : False).elim
  | cons hd ht =>
    refine PGsat.of (pgs_cons PGat.pg PGsat.pg hs) ⟨_, _, rfl, ?_⟩
    refine h1 S ρ σ H ow _ _ _ _ r hd w fun ρ' σ' w' r' o' => ?_
    refine h2 S ρ' σ' H ow _ _ _ _ r' ht w' fun ρ2 σ2 w2 r2 o2 => ?_
    exact g ρ2 σ2 w2 r2 ⟨(o'.1.mono fun i m => List.mem_append_left _ m).trans (o2.1.mono fun i m => List.mem_append_right _ m), fun j y q => by
      rcases o2.2 j y q with z | ⟨a1, a2⟩
      · exact .inl z
      · rcases o'.2 j y a1 with z | ⟨b1, b2⟩
        · exact .inl z
        · exact .inr ⟨b1, fun m => (List.mem_append.mp m).elim b2 a2⟩⟩
/-- a, b, .. of a tuple -/
def bTup (bs : WBs) : WB := fun ρ d k => match d with
  | .tuple ds => bs ρ ds k
  | _ => False
theorem sim_btup {es : List Expr} {kk : Nat} {pos : Pos} {bs : WBs} {is : List Nat} {n : Nat} (hc : X.calm = true) (h : SimBs X Z CL ow0 Hb es bs is) (hlen : ∀ ρ ds k, bs ρ ds k → ds.length = n)
    (hn : (assignEach es X.env).length = n := by rfl) (hst : (assignEach es X.env).findIdx? (·.1) = none := by rfl) : SimB X Z CL ow0 Hb (.Tuple es kk pos) (bTup bs) is := by
  intro S ρ σ H ow d v k Q r h' w g
  cases d with
  | tuple ds =>
    cases h' with
    | tup h1 h2 =>
      exact PGat.of (pg_tup hc PGsat.pg hn hst) ⟨_, _, rfl, hid_le.sqt h1, by rw [h2.length]; exact hlen _ _ _ w, h S ρ σ H ow _ _ _ _ r h2 w g⟩
  | _ => exact (w : False).elim
theorem bNil_len : ∀ (ρ : Ev) (ds : List D) (k : Ev → Prop), bNil ρ ds k → ds.length = 0 := fun _ _ _ h => by rw [h.1]; rfl
theorem bCons_len {b : WB} {bs : WBs} {n : Nat} (hb : ∀ ρ d k, b ρ d k → ∃ ρ', k ρ') (h : ∀ ρ ds k, bs ρ ds k → ds.length = n) : ∀ (ρ : Ev) (ds : List D) (k : Ev → Prop), bCons b bs ρ ds k → ds.length = n + 1 := fun ρ ds k w => by
  cases ds with
  | nil => exact (w : False).elim
  | cons d r =>
    obtain ⟨ρ', w'⟩ := hb _ _ _ w
    simp [h _ _ _ w']
theorem bName_has {i : Nat} : ∀ (ρ : Ev) (d : D) (k : Ev → Prop), bName i ρ d k → ∃ ρ', k ρ' := fun _ _ _ h => ⟨_, h⟩
theorem bNil_has : ∀ (ρ : Ev) (ds : List D) (k : Ev → Prop), bNil ρ ds k → ∃ ρ', k ρ' := fun _ _ _ h => ⟨_, h.2⟩
theorem bCons_has {b : WB} {bs : WBs} (hb : ∀ ρ d k, b ρ d k → ∃ ρ', k ρ') (h : ∀ ρ ds k, bs ρ ds k → ∃ ρ', k ρ') : ∀ (ρ : Ev) (ds : List D) (k : Ev → Prop), bCons b bs ρ ds k → ∃ ρ', k ρ' := fun ρ ds k w => by
  cases ds with
  | nil => exact (w : False).elim
  | cons d r =>
    obtain ⟨ρ', w'⟩ := hb _ _ _ w
    exact h _ _ _ w'
theorem bTup_has {bs : WBs} (h : ∀ ρ ds k, bs ρ ds k → ∃ ρ', k ρ') : ∀ (ρ : Ev) (d : D) (k : Ev → Prop), bTup bs ρ d k → ∃ ρ', k ρ' := fun ρ d k w => by
  cases d with
  | tuple ds => exact h _ _ _ w
  | _ => exact (w : False).elim

/-! ### what is walked -/
/-- J yields the data ds while S1 stands -/
structure ItD (K : PySem.W.Frag) (S1 : Hp) (J : It) (ds : List D) : Prop where
  go : ∀ i H, Le S1 H → i < ds.length → J.go i H
  stop : ∀ H, Le S1 H → J.stop ds.length H
  yld : ∀ (i : Nat) (H : Hp) (x : V) (H' : Hp) (ow : List Addr) (d : D), (∀ a ∈ ow, ∃ o, NT o ∧ H a = some o) → Le S1 (hid ow H) → ds[i]? = some d → J.yld i H x H' → Le H H' ∧ Dt K (hid ow H') x d
abbrev WI := Ev → (List D → Prop) → (Xn → Prop) → Prop
structure PIat (X : Cx) (tg iter : Expr) (σ : L2.St) (H : Hp) (R : (It → Hp → Prop)) : Prop where
  go : ∀ pins s, Inv X pins σ H s → wpAny (model X.prog X.w) X.A (eval iter X.env) (fun v s1 => wpAny (model X.prog X.w) X.A (pyIter v) (PIE X pins σ tg R) X.xe s1) X.xe s
def Held (X : Cx) (H : Hp) : Prop := ∃ h, HOk X.prog X.w H h
theorem PIat.pi {tg iter : Expr} : PI X tg iter (fun σ H R => PIat X tg iter σ H fun J H' => Held X H' → R J H') := by
  refine ⟨fun pins s σ H R I h => ?_⟩
  refine thn (h.go pins s I) fun v s1 h1 => thn h1 fun itv s2 h2 => ?_
  obtain ⟨it, fp, tn, J, H', e, I2, T, st, f, q⟩ := h2
  exact ⟨it, fp, tn, J, H', e, I2, T, st, f, q ⟨_, I2.hok⟩⟩
theorem PIat.of {tg iter : Expr} {t : TI} (h : PI X tg iter t) {σ : L2.St} {H : Hp} {R : It → Hp → Prop} (q : t σ H R) : PIat X tg iter σ H R := ⟨fun pins s I => h.run pins s σ H R I q⟩
def SimI (X : Cx) (W : WX) (Z : Ext) (CL : Calls) (ow0 : List Addr) (Hb : Hp) (tg iter : Expr) (w : WI) : Prop := ∀ (S : Hp) (ρ : Ev) (σ : L2.St) (H : Hp) (ow : List Addr) (P : List D → Prop) (Ex : Xn → Prop) (R : It → Hp → Prop),
  Rel CL Z X.K ow0 Hb S ρ σ H ow → w ρ P Ex → (∀ ds J H', P ds → SameBut (fp Z) H H' → RZ Z H' → ItD X.K (hid ow H') J ds → (Held X H' → ds.length ≤ sizeLine) → R J H') → Bd Z X.K ow X.mg W σ H Ex → PIat X tg iter σ H R
theorem sqt_len {H : Hp} {a : Addr} {xs : List V} (h : SqT X.K H a xs) (hh : Held X H) : xs.length ≤ sizeLine := by
  obtain ⟨hp, ok⟩ := hh
  rcases h with h | ⟨o, its, n, _, _, _, hz, hv⟩
  · obtain ⟨z, _⟩ := h.ok ok
    exact z
  · have := hv.length
    simp at this
    omega
theorem lst_len {H : Hp} {a : Addr} {xs : List V} (h : H a = some (.lst xs)) (hh : Held X H) : xs.length ≤ sizeLine := by
  obtain ⟨hp, ok⟩ := hh
  obtain ⟨z, _⟩ := ok a _ h
  exact z
theorem itD_tup {K : PySem.W.Frag} {S1 : Hp} {a : Addr} {vs : List V} {ds : List D} (h : SqT K S1 a vs) (ha : DtAll K S1 vs ds) : ItD K S1 (Itt K a) ds where
  go := fun i H e hi => ⟨vs, vs[i]'(by rw [ha.length]; exact hi), e.sqt h, by simp [ha.length, hi]⟩
  stop := fun H e => ⟨vs, e.sqt h, by rw [ha.length]; exact Nat.le_refl _⟩
  yld := fun i H x H' ow d _ e hd y => by
    obtain ⟨rfl, y⟩ := y
    have hx := y vs ((e.trans hid_le).sqt h)
    obtain ⟨d', h1, h2⟩ := ha.get' hx
    rw [hd] at h1
    cases h1
    exact ⟨.refl _, Dt.mono e h2⟩
theorem itD_lst {K : PySem.W.Frag} {S1 : Hp} {a : Addr} {vs : List V} {ds : List D} (h : S1 a = some (.lst vs)) (ha : DtAll K S1 vs ds) : ItD K S1 (Itl K a) ds where
  go := fun i H e hi => ⟨vs, vs[i]'(by rw [ha.length]; exact hi), .inl (.of (e _ _ h)), by simp [ha.length, hi]⟩
  stop := fun H e => ⟨vs, .inl (.of (e _ _ h)), by rw [ha.length]; exact Nat.le_refl _⟩
  yld := fun i H x H' ow d _ e hd y => by
    obtain ⟨rfl, y⟩ := y
    have hx := y vs (.inl (.of ((e.trans hid_le) _ _ h)))
    obtain ⟨d', h1, h2⟩ := ha.get' hx
    rw [hd] at h1
    cases h1
    exact ⟨.refl _, Dt.mono e h2⟩
def wIt (w : WE) : WI := fun ρ P Ex => w ρ (fun y => match y.kp with
  | some (.tuple ds) => P ds
  | _ => False) Ex
def wItL (w : WE) : WI := fun ρ P Ex => w ρ (fun y => match y.kp with
  | some (.list ds) => P ds
  | _ => False) Ex
/-- over a tuple -/
theorem sim_it {tg e : Expr} {we : WE} (h : SimE X W Z CL ow0 Hb e we) : SimI X W Z CL ow0 Hb tg e (wIt we) := by
  intro S ρ σ H ow P Ex R r w g b
  refine PIat.of (pi_tup PEat.pe) (h S ρ σ H ow _ Ex _ r w (fun y v H' p e z q => ?_) b)
  split at p
  · rename_i ds ed
    cases q.kp ed with
    | tup h1 h2 => exact ⟨_, rfl, ⟨_, hid_le.sqt h1⟩, g ds _ H' p e z (itD_tup h1 h2) fun hh => by rw [← h2.length]; exact sqt_len (hid_le.sqt h1) hh⟩
  · exact p.elim
/-- over a list that is not changed meanwhile -/
theorem sim_itL {tg e : Expr} {we : WE} (h : SimE X W Z CL ow0 Hb e we) : SimI X W Z CL ow0 Hb tg e (wItL we) := by
  intro S ρ σ H ow P Ex R r w g b
  refine PIat.of (pi_list PEat.pe) (h S ρ σ H ow _ Ex _ r w (fun y v H' p e z q => ?_) b)
  split at p
  · rename_i ds ed
    cases q.kp ed with
    | lst h1 h2 => exact ⟨_, rfl, ⟨_, .inl (.of (hid_le _ _ h1))⟩, g ds _ H' p e z (itD_lst h1 h2) fun hh => by rw [← h2.length]; exact lst_len (hid_le _ _ h1) hh⟩
  · exact p.elim
/-- lo, lo + 1, .. so many -/
def countD (lo : Int) (n : Nat) : List D := (List.range n).map fun i => .int (lo + (i : Nat))
theorem countD_len (lo : Int) (n : Nat) : (countD lo n).length = n := by simp [countD]
theorem itD_rng {K : PySem.W.Frag} {S1 : Hp} {lo : Int} {n : Nat} : ItD K S1 (Itr lo n) (countD lo n) where
  go := fun i H e hi => by rw [countD_len] at hi; exact hi
  stop := fun H e => by rw [countD_len]; exact Nat.le_refl _
  yld := fun i H x H' ow d _ e hd y => by
    obtain ⟨rfl, rfl⟩ := y
    have hi : i < n := by
      have := (List.getElem?_eq_some_iff.mp hd).1
      rwa [countD_len] at this
    unfold countD at hd
    rw [List.getElem?_map, List.getElem?_range hi] at hd
    cases hd
    exact ⟨.refl _, .int _⟩
/-- within the bounds that a range has -/
def rgOk (i : Int) : Prop := -(2 ^ 62) ≤ i ∧ i < 2 ^ 62
def wRng1 (w : WA) : WI := fun ρ P Ex => w ρ (fun ys => match ys with
  | [y] => match y.rd with
    | some (.int j) => rgOk j ∧ j.toNat ≤ sizeLine ∧ P (countD 0 j.toNat)
    | _ => False
  | _ => False) Ex
def wRng2 (w : WA) : WI := fun ρ P Ex => w ρ (fun ys => match ys with
  | [x, y] => match x.rd, y.rd with
    | some (.int i), some (.int j) => rgOk i ∧ rgOk j ∧ (j - i).toNat ≤ sizeLine ∧ P (countD i (j - i).toNat)
    | _, _ => False
  | _ => False) Ex
theorem sim_rng1 {tg a : Expr} {wa : WA} {p pos : Pos} (hg : Gl X "range") (hm : X.mg "range" = none) (h : SimA X W Z CL ow0 Hb [a] wa) (hs : starEach [a] X.env = [(false, eval a X.env)] := by rfl) : SimI X W Z CL ow0 Hb tg (.Call (.Name "range" p) [a] [] pos) (wRng1 wa) := by
  intro S ρ σ H ow P Ex R r w g b
  refine PIat.of (pi_range1 hg hm PAat.pa hs) (h S ρ σ H ow _ Ex _ r w (fun ys vs H' p e z q => ?_) b)
  split at p
  · split at p
    · rename_i y j ej
      cases q with
      | cons q1 q2 =>
        cases q2
        exact ⟨j, by rw [q1.int ej], p.1.1, p.1.2, g _ _ H' p.2.2 e z itD_rng fun _ => by rw [countD_len]; exact p.2.1⟩
    · exact p.elim
  · exact p.elim
theorem sim_rng2 {tg a c : Expr} {wa : WA} {p pos : Pos} (hg : Gl X "range") (hm : X.mg "range" = none) (h : SimA X W Z CL ow0 Hb [a, c] wa) (hs : starEach [a, c] X.env = [(false, eval a X.env), (false, eval c X.env)] := by rfl) (hs2 : starEach [c] X.env = [(false, eval c X.env)] := by rfl) :
    SimI X W Z CL ow0 Hb tg (.Call (.Name "range" p) [a, c] [] pos) (wRng2 wa) := by
  intro S ρ σ H ow P Ex R r w g b
  refine PIat.of (pi_range2 hg hm PAat.pa hs hs2) (h S ρ σ H ow _ Ex _ r w (fun ys vs H' p e z q => ?_) b)
  split at p
  · split at p
    · rename_i x y i j ei ej
      cases q with
      | cons q1 q2 =>
        cases q2 with
        | cons q2 q3 =>
          cases q3
          exact ⟨i, j, by rw [q1.int ei, q2.int ej], ⟨p.1.1, p.1.2, p.2.1.1, p.2.1.2⟩, g _ _ H' p.2.2.2 e z itD_rng fun _ => by rw [countD_len]; exact p.2.2.1⟩
    · exact p.elim
  · exact p.elim
/-- a text, sign by sign -/
def signsD (x : Str) : List D := x.cps.toList.map fun c => .str ⟨#[c]⟩
def wItS (w : WE) : WI := fun ρ P Ex => w ρ (fun y => match y.rd with
  | some (.str x) => x.length ≤ sizeLine ∧ P (signsD x)
  | _ => False) Ex
theorem itD_str {K : PySem.W.Frag} {S1 : Hp} {x : Str} : ItD K S1 (Its x) (signsD x) where
  go := fun i H e hi => by
    show i < x.cps.size
    simpa [signsD] using hi
  stop := fun H e => by simp [signsD, Its]
  yld := fun i H v H' ow d _ e hd y => by
    obtain ⟨rfl, c, h1, rfl⟩ := y
    unfold signsD at hd
    rw [List.getElem?_map, Array.getElem?_toList, h1] at hd
    cases hd
    exact ⟨.refl _, .str _⟩
theorem sim_itS {tg e : Expr} {we : WE} (h : SimE X W Z CL ow0 Hb e we) : SimI X W Z CL ow0 Hb tg e (wItS we) := by
  intro S ρ σ H ow P Ex R r w g b
  refine PIat.of (pi_str PEat.pe) (h S ρ σ H ow _ Ex _ r w (fun y v H' p e z q => ?_) b)
  split at p
  · rename_i x ed
    exact ⟨x, q.str ed, g _ _ H' p.2 e z itD_str fun _ => by simpa [signsD, Str.length] using p.1⟩
  · exact p.elim

/-! ### for -/
def forW (b : WB) (body : WS) (E : En) : List D → Ev → Prop
  | [], ρ => E.nx ρ
  | d :: ds, ρ => b ρ d fun ρ' => body { E with nx := forW b body E ds, ct := forW b body E ds, bk := E.nx } ρ'
def wFor (wi : WI) (b : WB) (body : WS) : WS := fun E ρ => wi ρ (fun ds => forW b body E ds ρ) (fun x => E.ex x ρ)
theorem DOK.remark {S S' : Hp} {E : En} {D : L2.Ends} (o : DOK X W Z CL ow0 Hb S E D) (h : Le S S') : DOK X W Z CL ow0 Hb S' E D :=
  ⟨fun ρ σ H ow p r => o.nx ρ σ H ow p (r.remark (h.trans r.mark)), fun ρ σ H ow p r => o.bk ρ σ H ow p (r.remark (h.trans r.mark)), fun ρ σ H ow p r => o.ct ρ σ H ow p (r.remark (h.trans r.mark)), fun y v ρ σ H ow p r q => o.rt y v ρ σ H ow p (r.remark (h.trans r.mark)) q, fun x ρ σ H ow cls d p r => o.ex x ρ σ H ow cls d p (r.remark (h.trans r.mark))⟩
theorem sim_for {tg iter : Expr} {body : List Stmt} {wi : WI} {b : WB} {is : List Nat} {wb : WS} {pos : Pos} (hp : PassesOwn (model X.prog X.w) X.A X.env X.xe) (hc : X.calm = true) (hi : SimI X W Z CL ow0 Hb tg iter wi) (hg : SimB X Z CL ow0 Hb tg b is) (hb : SimSs X W Z CL ow0 Hb body wb)
    (hs : ∀ x, foldedSetIterable iter X.env x = pure x := by intro _; rfl) : SimS X W Z CL ow0 Hb (.For tg iter body [] pos) (wFor wi b wb) := by
  intro S ρ σ H ow E D r w o
  refine PSat.of (ps_for hp hc PIat.pi PGat.pg PSsat.ps hs) ?_
  refine hi S ρ σ H ow _ _ _ r w (fun ds J H1 p e z hJ _ => fun _ => ?_) (o.bd r)
  have r1 : Rel CL Z X.K ow0 Hb (hid ow H1) ρ σ H1 ow := (r.step e z).remark (.refl _)
  have o1 : DOK X W Z CL ow0 Hb (hid ow H1) E D := o.remark (r.step e z).mark
  refine ⟨fun i m σ H => m = ds.length - i ∧ i ≤ ds.length ∧ ∃ ρ ow2, forW b wb E (ds.drop i) ρ ∧ Rel CL Z X.K ow0 Hb (hid ow H1) ρ σ H ow2, ⟨ds.length, by simp, Nat.zero_le _, ρ, ow, p, r1⟩, ?_⟩
  rintro i m σ2 H2 ⟨rfl, hi2, ρ2, ow2, p2, r2⟩
  have le : Le (hid ow H1) H2 := r2.mark.trans hid_le
  by_cases hlt : i < ds.length
  · refine .inr ⟨hJ.go i H2 le hlt, fun σ' H' => ∃ ρ ow2, forW b wb E (ds.drop (i + 1)) ρ ∧ Rel CL Z X.K ow0 Hb (hid ow H1) ρ σ' H' ow2, fun σ' H' ⟨ρ', ow', q⟩ => ⟨ds.length - (i + 1), by omega, rfl, hlt, ρ', ow', q⟩, fun x H' y => ?_⟩
    have hd : ds[i]? = some ds[i] := by simp [hlt]
    obtain ⟨l1, l2⟩ := hJ.yld i H2 x H' ow2 _ r2.gr.isS r2.mark hd y
    rw [List.drop_eq_getElem_cons hlt] at p2
    have r3 := r2.step (.of_le l1) (r2.gr.ext.le l1)
    refine hg _ ρ2 σ2 H' ow2 _ _ _ _ r3 l2 p2 fun ρ3 σ3 p3 r4 _ => ?_
    refine hb _ ρ3 σ3 H' ow2 _ _ r4 p3 ⟨fun ρ4 σ4 H4 ow4 q4 r5 => ⟨ρ4, ow4, q4, r5⟩, fun ρ4 σ4 H4 ow4 q4 r5 => o1.nx ρ4 σ4 H4 ow4 q4 r5, fun ρ4 σ4 H4 ow4 q4 r5 => ⟨ρ4, ow4, q4, r5⟩, o1.rt, o1.ex⟩
  · have ei : i = ds.length := by omega
    subst ei
    rw [List.drop_length] at p2
    exact .inl ⟨hJ.stop H2 le, o1.nx ρ2 σ2 H2 ow2 p2 r2⟩

/-! ### list comprehensions -/
def wipeE (ρ : Ev) : List Nat → Ev
  | [] => ρ
  | v :: vs => (wipeE ρ vs).set v none
theorem wipeE_len (ρ : Ev) : ∀ vs : List Nat, (wipeE ρ vs).length = ρ.length
  | [] => rfl
  | v :: vs => by unfold wipeE; rw [List.length_set, wipeE_len ρ vs]
theorem wipeE_some {ρ : Ev} {i : Nat} {x : Val} : ∀ {vs : List Nat}, (wipeE ρ vs)[i]? = some (some x) → ρ[i]? = some (some x) ∧ i ∉ vs
  | [], h => ⟨h, by simp⟩
  | v :: vs, h => by
    unfold wipeE at h
    by_cases hi : v = i
    · subst hi
      by_cases hv : v < (wipeE ρ vs).length
      · rw [List.getElem?_set_self hv] at h; cases h
      · rw [List.getElem?_eq_none (by simpa using hv)] at h; cases h
    · rw [List.getElem?_set_ne hi] at h
      obtain ⟨h1, h2⟩ := wipeE_some h
      exact ⟨h1, by simp only [List.mem_cons, not_or]; exact ⟨fun e => hi e.symm, h2⟩⟩
theorem wipe_get {σ : L2.St} {i : Nat} : ∀ {vs : List Nat}, i ∉ vs → (wipe σ vs)[i]? = σ[i]?
  | [], _ => rfl
  | v :: vs, h => by
    unfold wipe
    simp only [List.mem_cons, not_or] at h
    rw [List.getElem?_set_ne (fun e => h.1 e.symm), wipe_get h.2]
theorem wipe_in {σ : L2.St} {i : Nat} : ∀ {vs : List Nat}, i ∈ vs → i < σ.length → (wipe σ vs)[i]? = some none
  | v :: vs, h, hl => by
    unfold wipe
    by_cases e : v = i
    · subst e
      rw [List.getElem?_set_self (by rw [wipe_length]; exact hl)]
    · rw [List.getElem?_set_ne e]
      exact wipe_in ((List.mem_cons.mp h).resolve_left fun z => e z.symm) hl
theorem Only.wipe {vs : List Nat} {a b : L2.St} (o : Only vs a b) : wipe b vs = wipe a vs := by
  apply List.ext_getElem?
  intro i
  by_cases h : i ∈ vs
  · by_cases hl : i < a.length
    · rw [wipe_in h hl, wipe_in h (by rw [o.1]; exact hl)]
    · rw [List.getElem?_eq_none (by rw [wipe_length, o.1]; omega), List.getElem?_eq_none (by rw [wipe_length]; omega)]
  · rw [wipe_get h, wipe_get h, o.2 i h]
theorem wipe_wipe (σ : L2.St) (vs : List Nat) : wipe (wipe σ vs) vs = wipe σ vs :=
  Only.wipe (vs := vs) ⟨wipe_length σ vs, fun j h => wipe_get h⟩
theorem Rel.wiped {S : Hp} {ρ : Ev} {σ : L2.St} {H : Hp} {ow : List Addr} (r : Rel CL Z X.K ow0 Hb S ρ σ H ow) (vs : List Nat) : Rel CL Z X.K ow0 Hb S (wipeE ρ vs) (wipe σ vs) H ow :=
  r.weak (by rw [wipe_length, wipeE_len, r.len]) fun i y h => by
    obtain ⟨h1, h2⟩ := wipeE_some h
    exact ⟨h1, wipe_get h2⟩
/-- the tests of a comprehension -/
structure PTsat (X : Cx) (ifs : List Expr) (σ : L2.St) (H : Hp) (Q : (Bool → Hp → Prop)) : Prop where
  go : ∀ pins s, Inv X pins σ H s → wpAny (model X.prog X.w) X.A (forIn ifs true fun c r => if r = true then do let ok ← isTrue c X.env (eval c X.env); pure (ForInStep.yield ok) else pure (ForInStep.yield r)) (TP X pins σ Q) X.xe s
theorem PTsat.pt {ifs : List Expr} : PTs X ifs (PTsat X ifs) := ⟨fun pins s σ H Q I h => h.go pins s I⟩
theorem PTsat.of {ifs : List Expr} {t : TT} (h : PTs X ifs t) {σ : L2.St} {H : Hp} {Q : Bool → Hp → Prop} (q : t σ H Q) : PTsat X ifs σ H Q := ⟨fun pins s I => h.run pins s σ H Q I q⟩
def SimTs (X : Cx) (W : WX) (Z : Ext) (CL : Calls) (ow0 : List Addr) (Hb : Hp) (ifs : List Expr) (w : WT) : Prop := ∀ (S : Hp) (ρ : Ev) (σ : L2.St) (H : Hp) (ow : List Addr) (P : Bool → Prop) (Ex : Xn → Prop) (Q : Bool → Hp → Prop),
  Rel CL Z X.K ow0 Hb S ρ σ H ow → w ρ P Ex → GdT Z H P Q → Bd Z X.K ow X.mg W σ H Ex → PTsat X ifs σ H Q
def wYes : WT := fun _ P _ => P true
theorem sim_tsnil : SimTs X W Z CL ow0 Hb [] wYes := fun S ρ σ H ow P Ex Q r w g b => PTsat.of pts_nil (g true H w (.refl _ _) r.gr.ext)
theorem sim_tsone {c : Expr} {wc : WT} (h : SimT X W Z CL ow0 Hb c wc) : SimTs X W Z CL ow0 Hb [c] wc := fun S ρ σ H ow P Ex Q r w g b => PTsat.of (pts_one PTat.pt) (h S ρ σ H ow P Ex Q r w g b)
abbrev W0 : WX := fun _ _ _ _ => False
def lcW (b : WB) (tt : WT) (we : WE) (ρ0 : Ev) (P : List D → Prop) : List D → List D → Prop
  | [], acc => P acc
  | d :: ds, acc => b ρ0 d fun ρ' => tt ρ' (fun c => if c = true then we ρ' (fun y => match y.kp with
      | some e => lcW b tt we ρ0 P ds (acc ++ [e])
      | none => False) (fun _ => False) else lcW b tt we ρ0 P ds acc) (fun _ => False)
def wLc (wi : WI) (b : WB) (tt : WT) (we : WE) (vs : List Nat) : WE := fun ρ P Ex => wi ρ (fun ds => lcW b tt we (wipeE ρ vs) (fun acc => P (.own acc)) ds []) Ex
/-- another owned address, new -/
theorem Rel.more {S : Hp} {ρ : Ev} {σ : L2.St} {H H' : Hp} {ow : List Addr} {p : Addr} (r : Rel CL Z X.K ow0 Hb S ρ σ H ow) (e : SameBut (fp Z) H H') (z : RZ Z H') (hp : New H p) (hp' : ∃ o, NT o ∧ H' p = some o) : Rel CL Z X.K ow0 Hb S ρ σ H' (p :: ow) := by
  have grow : Le (hid ow H) (hid (p :: ow) H') := hid_mono e r.gr.fpo fun a m => (List.mem_cons.mp m).elim (fun q => .inr (q ▸ hp)) .inl
  refine r.keep ⟨z, fun a m => List.mem_cons_of_mem _ (r.gr.fpo a m), fun a m => ?_⟩ r.len (r.sb.trans e) (fun a m => List.mem_cons_of_mem _ (r.sub a m)) (r.mark.trans grow) (fun i y h => ⟨h, rfl⟩) fun i y v as _ _ q => q.mono (e.agree fun a m => (q.in_ a m).2.2) grow fun a m => List.mem_cons_of_mem _ (q.in_ a m).2.1
  rcases List.mem_cons.mp m with rfl | m
  · exact hp'
  · exact (r.gr.step e z).isS a m
theorem hid_upd {ow : List Addr} {H : Hp} {p : Addr} {o : HO} (hp : p ∈ ow) : hid ow (upd H p o) = hid ow H := by
  funext a
  unfold hid
  by_cases m : a ∈ ow
  · rw [if_pos m, if_pos m]
  · rw [if_neg m, if_neg m, upd_ne (fun e : a = p => m (by rw [e]; exact hp))]
/-- the ground, an owned list written -/
theorem Gr.put {H : Hp} {ow : List Addr} {p : Addr} {o : HO} (gr : Gr Z ow H) (z : RZ Z (upd H p o)) (n : NT o) : Gr Z ow (upd H p o) := ⟨z, gr.fpo, fun a m => by
  by_cases e : a = p
  · subst e
    exact ⟨_, n, upd_same⟩
  · rw [upd_ne e]
    exact gr.isS a m⟩
theorem SameBut.put {fp : List Addr} {Hb H : Hp} {p : Addr} {o : HO} (sb : SameBut fp Hb H) (hb : New Hb p) : SameBut fp Hb (upd H p o) := fun a u n t q => by
  have ne : a ≠ p := fun e => by rw [e] at q; exact hb u t q
  rw [upd_ne ne]
  exact sb a u n t q
theorem agree_upd {as : List Addr} {H : Hp} {p : Addr} {o : HO} (n : p ∉ as) : Agree as H (upd H p o) := fun a m u _ q => by rw [upd_ne fun e => n (by rw [← e]; exact m)]; exact q
/-- .. where L is owned, but by no slot -/
structure RelL (CL : Calls) (Z : Ext) (K : PySem.W.Frag) (ow0 : List Addr) (Hb : Hp) (S : Hp) (ρ : Ev) (σ : L2.St) (H : Hp) (ow : List Addr) (L : Addr) : Prop where
  r : Rel CL Z K ow0 Hb S ρ σ H ow
  off : ∃ F, Slots CL Z K ow Hb H ρ σ F ∧ ∀ i, L ∉ F i
theorem RelL.step {S : Hp} {ρ : Ev} {σ : L2.St} {H H' : Hp} {ow : List Addr} {L : Addr} (r : RelL CL Z X.K ow0 Hb S ρ σ H ow L) (e : SameBut (fp Z) H H') (z : RZ Z H') : RelL CL Z X.K ow0 Hb S ρ σ H' ow L := by
  obtain ⟨F, f, n⟩ := r.off
  obtain ⟨G, g, sub⟩ := f.keep (ρ' := ρ) (σ' := σ) (fun i y h => ⟨h, rfl⟩) fun i y v _ _ q => q.stay e r.r.gr.fpo
  exact ⟨r.r.step e z, G, g, fun i m => n i (sub i L m)⟩
/-- targets bound -/
theorem RelL.bound {S S' : Hp} {ρ ρ' : Ev} {σ σ' : L2.St} {H : Hp} {ow is : List Nat} {L : Addr} (a : RelL CL Z X.K ow0 Hb S ρ σ H ow L) (r : Rel CL Z X.K ow0 Hb S' ρ' σ' H ow) (o : OnlyE is ρ σ ρ' σ') : RelL CL Z X.K ow0 Hb S' ρ' σ' H ow L := by
  obtain ⟨F, f, n⟩ := a.off
  let G : Nat → List Addr := fun j => match ρ'[j]? with
    | some (some (.d _)) => []
    | some (some _) => F j
    | _ => []
  have sub : ∀ j, ∀ a ∈ G j, a ∈ F j := fun j a m => by
    have m' : a ∈ (match ρ'[j]? with
      | some (some (.d _)) => []
      | some (some _) => F j
      | _ => []) := m
    split at m'
    · cases m'
    · exact m'
    · cases m'
  refine ⟨r, G, ⟨fun j y e => ?_, fun i j a n m1 m2 => f.dis i j a n (sub i a m1) (sub j a m2), fun j hn => ?_⟩, fun i m => n i (sub i L m)⟩
  · rcases o.2 j y e with ⟨d, rfl⟩ | ⟨h1, h2⟩
    · obtain ⟨v, h1, h2⟩ := r.val j _ e
      have eG : G j = [] := by
        show (match ρ'[j]? with
          | some (some (.d _)) => []
          | some (some _) => F j
          | _ => []) = _
        rw [e]
      exact ⟨v, h1, eG, h2⟩
    · obtain ⟨v, h3, h4⟩ := f.at_ j y h1
      refine ⟨v, (o.1.2 j h2).trans h3, ?_⟩
      by_cases hd : ∃ d, y = .d d
      · obtain ⟨d, rfl⟩ := hd
        have eG : G j = [] := by
          show (match ρ'[j]? with
            | some (some (.d _)) => []
            | some (some _) => F j
            | _ => []) = _
          rw [e]
        exact ⟨eG, h4.2⟩
      · have eG : G j = F j := by
          show (match ρ'[j]? with
            | some (some (.d _)) => []
            | some (some _) => F j
            | _ => []) = _
          rw [e]
          cases y <;> first | rfl | exact absurd ⟨_, rfl⟩ hd
        rw [eG]
        exact h4
  · show (match ρ'[j]? with
      | some (some (.d _)) => []
      | some (some _) => F j
      | _ => []) = _
    split
    · rfl
    · rename_i y _ e
      exact absurd e (hn _)
    · rfl
theorem RelL.weak {S : Hp} {ρ ρ' : Ev} {σ σ' : L2.St} {H : Hp} {ow : List Addr} {L : Addr} (a : RelL CL Z X.K ow0 Hb S ρ σ H ow L) (hl : σ'.length = ρ'.length) (h : ∀ (i : Nat) (y : Val), ρ'[i]? = some (some y) → ρ[i]? = some (some y) ∧ σ'[i]? = σ[i]?) : RelL CL Z X.K ow0 Hb S ρ' σ' H ow L := by
  obtain ⟨F, f, n⟩ := a.off
  obtain ⟨G, g, sub⟩ := f.keep h fun _ _ _ _ _ q => q
  exact ⟨a.r.weak hl h, G, g, fun i m => n i (sub i L m)⟩
theorem RelL.wiped {S : Hp} {ρ : Ev} {σ : L2.St} {H : Hp} {ow : List Addr} {L : Addr} (r : RelL CL Z X.K ow0 Hb S ρ σ H ow L) (vs : List Nat) : RelL CL Z X.K ow0 Hb S (wipeE ρ vs) (wipe σ vs) H ow L :=
  r.weak (by rw [wipe_length, wipeE_len, r.r.len]) fun i y h => by
    obtain ⟨h1, h2⟩ := wipeE_some h
    exact ⟨h1, wipe_get h2⟩
theorem RelL.remark {S S' : Hp} {ρ : Ev} {σ : L2.St} {H : Hp} {ow : List Addr} {L : Addr} (r : RelL CL Z X.K ow0 Hb S ρ σ H ow L) (h : Le S' (hid ow H)) : RelL CL Z X.K ow0 Hb S' ρ σ H ow L := ⟨r.r.remark h, r.off⟩
theorem Rel.moreL {S : Hp} {ρ : Ev} {σ : L2.St} {H H' : Hp} {ow : List Addr} {p : Addr} (r : Rel CL Z X.K ow0 Hb S ρ σ H ow) (e : SameBut (fp Z) H H') (z : RZ Z H') (hp : New H p) (hp' : ∃ o, NT o ∧ H' p = some o) : RelL CL Z X.K ow0 Hb S ρ σ H' (p :: ow) p := by
  have grow : Le (hid ow H) (hid (p :: ow) H') := hid_mono e r.gr.fpo fun a m => (List.mem_cons.mp m).elim (fun q => .inr (q ▸ hp)) .inl
  obtain ⟨F, f⟩ := r.own
  obtain ⟨G, g, sub⟩ := f.keep (ρ' := ρ) (σ' := σ) (ow' := p :: ow) (H' := H') (fun i y h => ⟨h, rfl⟩) fun i y v _ _ q => q.mono (e.agree fun a m => (q.in_ a m).2.2) grow fun a m => List.mem_cons_of_mem _ (q.in_ a m).2.1
  exact ⟨r.more e z hp hp', G, g, fun i m => r.gr.no hp (f.in_ i p (sub i p m)).2.1⟩
/-- it is written -/
theorem RelL.putO {S : Hp} {ρ : Ev} {σ : L2.St} {H : Hp} {ow : List Addr} {p : Addr} {o : HO} (r : RelL CL Z X.K ow0 Hb S ρ σ H ow p) (z : RZ Z (upd H p o)) (n : NT o) (hp : p ∈ ow) (hb : New Hb p) : RelL CL Z X.K ow0 Hb S ρ σ (upd H p o) ow p := by
  have same := hid_upd (H := H) (o := o) hp
  obtain ⟨F, f, nF⟩ := r.off
  obtain ⟨G, g, sub⟩ := f.keep (ρ' := ρ) (σ' := σ) (ow' := ow) (H' := upd H p o) (fun i y h => ⟨h, rfl⟩) fun i y v _ _ q => q.mono (agree_upd (nF i)) (by rw [same]; exact fun _ _ q => q) fun a m => (q.in_ a m).2.1
  exact ⟨⟨r.r.gr.put z n, r.r.len, r.r.sb.put hb, r.r.sub, by rw [same]; exact r.r.mark, r.r.held, G, g⟩, G, g, fun i m => nF i (sub i p m)⟩
theorem RelL.put {S : Hp} {ρ : Ev} {σ : L2.St} {H : Hp} {ow : List Addr} {p : Addr} {us vs : List V} (r : RelL CL Z X.K ow0 Hb S ρ σ H ow p) (hu : H p = some (.lst us)) (hp : p ∈ ow) (hf : p ∉ fp Z) (hb : New Hb p) : RelL CL Z X.K ow0 Hb S ρ σ (upd H p (.lst vs)) ow p :=
  r.putO (r.r.gr.ext.upd hf hu) nt_lst hp hb
theorem lc_sound {tg iter elt : Expr} {ifs : List Expr} {scope : Scope} {wi : WI} {b : WB} {is : List Nat} {tt : WT} {we : WE} {vs : List Nat} (hi : SimI X W Z CL ow0 Hb tg iter wi) (his : ∀ i ∈ is, i ∈ vs)
    (g0 : Gr Z ow0 Hb)
    {g : TG} {t : TT} {te : TE}
    (hg : ∀ {S : Hp} {ρ : Ev} {σ : L2.St} {H : Hp} {ow : List Addr} {d : D} {v : V} {k : Ev → Prop} {Q : L2.St → Hp → Prop}, Rel CL Z X.K ow0 Hb S ρ σ H ow → Dt X.K (hid ow H) v d → b ρ d k → (∀ ρ' σ', k ρ' → Rel CL Z X.K ow0 Hb S ρ' σ' H ow → OnlyE is ρ σ ρ' σ' → Q σ' H) → g v σ H Q)
    (ht : ∀ {S : Hp} {ρ : Ev} {σ : L2.St} {H : Hp} {ow : List Addr} {P : Bool → Prop} {Q : Bool → Hp → Prop}, Rel CL Z X.K ow0 Hb S ρ σ H ow → tt ρ P (fun _ => False) → GdT Z H P Q → t σ H Q)
    (he : ∀ {S : Hp} {ρ : Ev} {σ : L2.St} {H : Hp} {ow : List Addr} {P : Val → Prop} {Q : VK}, Rel CL Z X.K ow0 Hb S ρ σ H ow → we ρ P (fun _ => False) → Gd CL Z X.K ow H P Q → te σ H Q)
    {S : Hp} {ρ : Ev} {σ : L2.St} {H : Hp} {ow : List Addr} {P : Val → Prop} {Ex : Xn → Prop} {Q : VK} (r : Rel CL Z X.K ow0 Hb S ρ σ H ow) (w : wLc wi b tt we vs ρ P Ex) (gd : Gd CL Z X.K ow H P Q) (bd : Bd Z X.K ow X.mg W σ H Ex) :
    tLc (fun σ H R => PIat X tg iter σ H fun J H' => Held X H' → R J H') g t te vs σ H Q := by
  refine hi S ρ σ H ow _ _ _ r w (fun ds J H1 p e z hJ hlen => fun hh => ?_) bd
  intro L hL
  have hsz := hlen hh
  have r1 := (r.step e z).remark (S' := hid ow H1) (.refl _)
  have hLz : L ∉ fp Z := fun m => r1.gr.no (.of hL) (r1.gr.fpo L m)
  have hLb : New Hb L := r1.sb.free hLz (.of hL)
  have hLow : L ∉ ow := r1.gr.no (.of hL)
  have r2 : RelL CL Z X.K ow0 Hb (hid ow H1) ρ σ (upd H1 L (.lst [])) (L :: ow) L := r1.moreL (SameBut.new hL) (z.le (Le.new hL)) (.of hL) ⟨_, nt_lst, upd_same⟩
  -- between two turns
  refine ⟨fun i m H => m = ds.length - i ∧ i ≤ ds.length ∧ ∃ acc us, lcW b tt we (wipeE ρ vs) (fun acc => P (.own acc)) (ds.drop i) acc ∧ acc.length ≤ i ∧ H L = some (.lst us) ∧ DtAll X.K (hid (L :: ow) H) us acc ∧ RelL CL Z X.K ow0 Hb (hid ow H1) ρ σ H (L :: ow) L ∧ SameBut (fp Z) H1 H, ⟨ds.length, by simp, Nat.zero_le _, [], [], p, Nat.le_refl _, upd_same, .nil, r2, SameBut.new hL⟩, ?_⟩
  rintro i m H2 ⟨rfl, hi2, acc, us, p2, hacc, hL2, ha2, r3, sb2⟩
  have le : Le (hid ow H1) H2 := r3.r.mark.trans hid_le
  by_cases hlt : i < ds.length
  · refine .inr ⟨hJ.go i H2 le hlt, fun H => ∃ acc us, lcW b tt we (wipeE ρ vs) (fun acc => P (.own acc)) (ds.drop (i + 1)) acc ∧ acc.length ≤ i + 1 ∧ H L = some (.lst us) ∧ DtAll X.K (hid (L :: ow) H) us acc ∧ RelL CL Z X.K ow0 Hb (hid ow H1) ρ σ H (L :: ow) L ∧ SameBut (fp Z) H1 H, fun H' q => ⟨ds.length - (i + 1), by omega, rfl, hlt, q⟩, fun x H' y => ?_⟩
    have hd : ds[i]? = some ds[i] := by simp [hlt]
    obtain ⟨l1, l2⟩ := hJ.yld i H2 x H' (L :: ow) _ r3.r.gr.isS r3.r.mark hd y
    rw [List.drop_eq_getElem_cons hlt] at p2
    have r4 := r3.step (.of_le l1) (r3.r.gr.ext.le l1)
    refine hg (r4.r.wiped vs) l2 p2 fun ρ5 σ5 p5 r5 o5 => ⟨by rw [(o5.1.mono his).wipe, wipe_wipe], ?_⟩
    refine ht r5 p5 fun c H6 p6 e6 z6 => ?_
    have r6 := r4.step e6 z6
    have hL6 : H6 L = some (.lst us) := e6 L _ hLz nt_lst (l1 _ _ hL2)
    have ha6 : DtAll X.K (hid (L :: ow) H6) us acc := DtAll.mono (hid_mono e6 r4.r.gr.fpo fun _ m => .inl m) (DtAll.mono (hid_mono (SameBut.of_le l1) r3.r.gr.fpo fun _ m => .inl m) ha2)
    have sb6 : SameBut (fp Z) H1 H6 := sb2.trans ((SameBut.of_le l1).trans e6)
    cases c with
    | false =>
      rw [if_neg (by decide)] at p6 ⊢
      exact ⟨acc, us, p6, Nat.le_succ_of_le hacc, hL6, ha6, r6, sb6⟩
    | true =>
      rw [if_pos rfl] at p6 ⊢
      refine he (r5.step e6 z6) p6 fun v y H7 p7 e7 z7 q7 => ?_
      split at p7
      · rename_i e8 ed
        have hL7 : H7 L = some (.lst us) := e7 L _ hLz nt_lst hL6
        have ha7 : DtAll X.K (hid (L :: ow) H7) us acc := DtAll.mono (hid_mono e7 r6.r.gr.fpo fun _ m => .inl m) ha6
        have r7 := r6.step e7 z7
        refine ⟨us, hL7, ?_, acc ++ [e8], us ++ [y], p7, by simp; omega, upd_same, ?_, ?_, fun a u n t q => ?_⟩
        · rw [ha7.length]
          omega
        · rw [hid_upd List.mem_cons_self]
          exact ha7.append (.cons (q7.kp ed) .nil)
        · exact r7.put hL7 List.mem_cons_self hLz hLb
        · have ne : a ≠ L := fun e => by rw [e, hL] at q; cases q
          rw [upd_ne ne]
          exact e7 a u n t (sb6 a u n t q)
      · exact p7.elim
  · have ei : i = ds.length := by omega
    subst ei
    rw [List.drop_length] at p2
    refine .inl ⟨hJ.stop H2 le, ?_⟩
    refine gd (.own acc) _ H2 p2 (e.trans sb2) r3.r.gr.ext ⟨L, us, rfl, e.free hLz (.of hL), hLow, hL2, ha2⟩
end
end Pd

/-! Pd8: comprehensions, lists that grow, raise, promises of defs, calls. -/
namespace Pd
open PySem PySem.Spec PyProof.Rows L2
section
variable {X : Cx} {W : WX} {Z : Ext} {CL : Calls} {ow0 : List Addr} {Hb : Hp}
/-- what holds in every block of X -/
def InBlk (X : Cx) (scope : Scope) (p : Cx → Prop) : Prop := ∀ (s : Shared) (H : Hp) (C : Addr) (cl : List (Str × Addr)) (fp : List Addr), p (X.blk s H scope (compEnvC scope cl C X.env) fp)
theorem lc_parts {tg iter elt : Expr} {ifs : List Expr} {scope : Scope} {own : List (Str × Nat)} {b : WB} {is : List Nat} {tt : WT} {we : WE}
    (hg : InBlk X scope fun Y => SimB Y Z CL ow0 Hb tg b is) (ht : InBlk X scope fun Y => SimTs Y W0 Z CL ow0 Hb ifs tt) (he : InBlk X scope fun Y => SimE Y W0 Z CL ow0 Hb elt we) (hi : SimI X W Z CL ow0 Hb tg iter wi) (his : ∀ i ∈ is, i ∈ own.map (·.2)) (g0 : Gr Z ow0 Hb)
    {S : Hp} {ρ : Ev} {σ : L2.St} {H : Hp} {ow : List Addr} {P : Val → Prop} {Ex : Xn → Prop} {Q : VK} (r : Rel CL Z X.K ow0 Hb S ρ σ H ow) (w : wLc wi b tt we (own.map (·.2)) ρ P Ex) (gd : Gd CL Z X.K ow H P Q) (bd : Bd Z X.K ow X.mg W σ H Ex) :
    tLc (fun σ H R => PIat X tg iter σ H fun J H' => Held X H' → R J H') (fun v σ H Q => InBlk X scope fun Y => PGat Y tg v σ H Q) (fun σ H Q => InBlk X scope fun Y => PTsat Y ifs σ H Q) (fun σ H Q => InBlk X scope fun Y => PEat Y elt σ H Q) (own.map (·.2)) σ H Q := by
  refine lc_sound (X := X) (W := W) (Z := Z) (CL := CL) (ow0 := ow0) (Hb := Hb) (elt := elt) (ifs := ifs) (scope := scope) hi his g0 (fun r h w g s H C cl fp => ?_) (fun r w g s H C cl fp => ?_) (fun r w g s H C cl fp => ?_) r w gd bd
  · exact hg s H C cl fp _ _ _ _ _ _ _ _ _ r h w g
  · exact ht s H C cl fp _ _ _ _ _ _ _ _ r w g fun _ _ _ _ z => z.elim
  · exact he s H C cl fp _ _ _ _ _ _ _ _ r w g fun _ _ _ _ z => z.elim
theorem sim_lc {tg iter elt : Expr} {ifs : List Expr} {scope : Scope} {own : List (Str × Nat)} {pos : Pos} {wi : WI} {b : WB} {is : List Nat} {tt : WT} {we : WE} (hc : X.calm = true) (hN : X.N.Nodup) (g0 : Gr Z ow0 Hb) (hi : SimI X W Z CL ow0 Hb tg iter wi) (ok : BlkOk X.N X.env.scope scope own) (his : ∀ i ∈ is, i ∈ own.map (·.2))
    (hg : InBlk X scope fun Y => SimB Y Z CL ow0 Hb tg b is) (ht : InBlk X scope fun Y => SimTs Y W0 Z CL ow0 Hb ifs tt) (he : InBlk X scope fun Y => SimE Y W0 Z CL ow0 Hb elt we)
    (hs : ∀ x, foldedSetIterable iter X.env x = pure x := by intro _; rfl) : SimE X W Z CL ow0 Hb (.ListComp elt [⟨tg, iter, ifs, 0⟩] scope pos) (wLc wi b tt we (own.map (·.2))) := by
  intro S ρ σ H ow P Ex Q r w g bd
  refine PEat.of (pe_lc (g := fun v σ H Q => InBlk X scope fun Y => PGat Y tg v σ H Q) (tt := fun σ H Q => InBlk X scope fun Y => PTsat Y ifs σ H Q) (te := fun σ H Q => InBlk X scope fun Y => PEat Y elt σ H Q) hc hN PIat.pi ok (fun s H C cl fp => ⟨fun pins s' σ H' v u Q I rv h => (h s H C cl fp).go pins s' u I rv⟩) (fun s H C cl fp => ⟨fun pins s' σ H' Q I h => (h s H C cl fp).go pins s' I⟩) (fun s H C cl fp => ⟨fun pins s' σ H' Q I h => (h s H C cl fp).go pins s' I⟩) hs) ?_
  exact lc_parts hg ht he hi his g0 r w g bd
end
end Pd

/-! Pd9: methods of owned lists. -/
namespace Pd
open PySem PySem.Spec PyProof.Rows L2
section
variable {X : Cx} {W : WX} {Z : Ext} {CL : Calls} {ow0 : List Addr} {Hb : Hp}
/-- the list of a slot is written -/
theorem Rel.putS {S : Hp} {ρ : Ev} {σ : L2.St} {H : Hp} {ow : List Addr} {p : Addr} {us vs : List V} {i : Nat} {xs ys : List D} (r : Rel CL Z X.K ow0 Hb S ρ σ H ow) (hi : ρ[i]? = some (some (.own xs))) (hσ : σ[i]? = some (some (.ref p))) (hu : H p = some (.lst us)) (ha : DtAll X.K (hid ow H) vs ys) :
    Rel CL Z X.K ow0 Hb S (ρ.set i (some (.own ys))) σ (upd H p (.lst vs)) ow := by
  obtain ⟨F, f⟩ := r.own
  obtain ⟨v, h1, p', us', e1, ea, hb, hp, hf, h2, h3⟩ := f.at_ i _ hi
  rw [hσ] at h1
  cases h1
  cases e1
  have same := hid_upd (H := H) (o := .lst vs) hp
  have hl : i < ρ.length := (List.getElem?_eq_some_iff.mp hi).1
  refine ⟨r.gr.put (r.gr.ext.upd hf hu) nt_lst, by rw [List.length_set, r.len], r.sb.put hb, r.sub, by rw [same]; exact r.mark, r.held, F, fun j y q => ?_, f.dis, fun j n => ?_⟩
  · rcases getSet q with ⟨rfl, z, _⟩ | ⟨n, z⟩
    · cases z
      exact ⟨_, hσ, p, vs, rfl, ea, hb, hp, hf, upd_same, by rw [same]; exact ha⟩
    · obtain ⟨u, u1, u2⟩ := f.at_ j y z
      exact ⟨u, u1, u2.mono (agree_upd fun m => f.dis j i p n m (by rw [ea]; exact List.mem_cons_self)) (by rw [same]; exact fun _ _ q => q) fun a m => (u2.in_ a m).2.1⟩
  · by_cases hj : j = i
    · subst hj
      exact absurd (List.getElem?_set_self hl) (n _)
    · exact f.nil j fun y z => n y (by rw [List.getElem?_set_ne (Ne.symm hj)]; exact z)

abbrev OpM := List D → List D → (List D → Prop) → Prop
def wMt (i : Nat) (op : OpM) (w : WA) : WS := fun E ρ => match ρ[i]? with
  | some (some (.own xs)) => w ρ (fun ys => match keeps ys with
    | some ds => op xs ds fun zs => E.nx (ρ.set i (some (.own zs)))
    | none => False) (fun x => E.ex x ρ)
  | _ => False
/-- what a method does of data -/
def MOk (K : PySem.W.Frag) (r : V → List V → Hp → VK → Prop) (op : OpM) : Prop := ∀ (ow : List Addr) (H : Hp) (l : Addr) (vs us : List V) (xs ds : List D) (P : List D → Prop) (Q : VK), l ∈ ow → H l = some (.lst vs) → DtAll K (hid ow H) vs xs → DtAll K (hid ow H) us ds → op xs ds P →
  (∀ zs ws, P zs → DtAll K (hid ow H) ws zs → Q .non (upd H l (.lst ws))) → r (.ref l) us H Q
theorem sim_mt {op : OpM} {id : String} {r : V → List V → Hp → VK → Prop} (hm : MtR X id r) (hop : MOk X.K r op) (i : Nat) {x name : Str} {xp apos cpos pos : Pos} {e : Expr} {es : List Expr} {wa : WA} (slot : Slot "list" name id) (hty : typeOf (.builtin id) = pure (.type "method_descriptor")) (ha : SimA X W Z CL ow0 Hb (e :: es) wa)
    (hN : X.N[i]? = some x := by rfl) (hv : Vis X.env.scope x := by first | exact Or.inl rfl | exact Or.inr (Or.inl rfl) | exact Or.inr (Or.inr rfl)) (hd : (x == ("__debug__" : Str)) = false := by decide) (hcd : (x == ("__classdict__" : Str)) = false := by decide)
    (hbase : attributeBase (.Name x xp) name X.env (eval (.Name x xp) X.env) = eval (.Name x xp) X.env := by rfl)
    (hfew : ((backTo cpos (starEach (e :: es) X.env)).all (fun x => !x.1) && (backToKw cpos (keywordEach [] X.env)).all (fun x => x.1.isSome)
      && decide ((e :: es).length + ([] : List Keyword).length + (if ([] : List Keyword).isEmpty then 0 else 1) < 30)) = true := by rfl)
    (hline : (apos.endLine == cpos.line) = true := by rfl) (hs : starEach (e :: es) X.env = (false, eval e X.env) :: starEach es X.env := by rfl) (hplain : (backTo cpos (starEach es X.env)).any (·.1) = false := by rfl)
    (hsw : swapsWith (.Call (.Attribute (.Name x xp) name apos) (e :: es) [] cpos) none pos.line X.env = pure false := by rfl) :
    SimS X W Z CL ow0 Hb (.Expr (.Call (.Attribute (.Name x xp) name apos) (e :: es) [] cpos) pos) (wMt i op wa) := by
  intro S ρ σ H ow E D rl w o
  unfold wMt at w
  split at w
  · rename_i xs hi
    obtain ⟨v, h1, p, vs, rfl, hb, hp, hf, h2, h3⟩ := rl.val i _ hi
    refine PSat.of (ps_expr (pe_bm PySem.F.plainAttrs_list slot hty hm (pe_var hN hv hd hcd) PAat.pa hbase hfew hline hs hplain) hsw) ?_
    refine ⟨_, h1, Or.inl ⟨rfl, _, Or.inl (Or.inl h2)⟩, ?_⟩
    refine ha S ρ σ H ow _ _ _ rl w (fun ys us H1 p1 e1 z1 q1 => ?_) (o.bd rl)
    split at p1
    · rename_i ds ed
      have r1 := rl.step e1 z1
      have h2' : H1 p = some (.lst vs) := e1 p _ hf nt_lst h2
      have h3' : DtAll X.K (hid ow H1) vs xs := DtAll.mono (hid_mono e1 rl.gr.fpo fun _ m => .inl m) h3
      exact hop ow H1 p vs us xs ds _ _ hp h2' h3' (q1.keeps ed) p1 fun zs ws pz hz => o.nx _ σ _ ow pz (r1.putS hi h1 h2' hz)
    · exact p1.elim
  · exact w.elim
def mAppend : OpM := fun xs ds P => match ds with
  | [d] => xs.length < sizeLine ∧ P (xs ++ [d])
  | _ => False
theorem mo_append {K : PySem.W.Frag} : MOk K rAppend mAppend := by
  intro ow H l vs us xs ds P Q hl hv ha hu w q
  unfold mAppend at w
  split at w
  · cases hu with
    | cons h t =>
      cases t
      exact ⟨l, vs, _, rfl, rfl, hv, by rw [ha.length]; exact w.1, q _ _ w.2 (ha.append (.cons h .nil))⟩
  · exact w.elim
def mInsert : OpM := fun xs ds P => match ds with
  | [.int i, d] => (xs.length < sizeLine ∧ 0 ≤ i ∧ i < 2 ^ 63) ∧ P (xs.take i.toNat ++ [d] ++ xs.drop i.toNat)
  | _ => False
theorem mo_insert {K : PySem.W.Frag} : MOk K (fun x vs H Q => ∃ (l : Addr) (xs : List V) (i : Int) (y : V), x = .ref l ∧ vs = [.int i, y] ∧ H l = some (.lst xs) ∧ xs.length < sizeLine ∧ 0 ≤ i ∧ i < 2 ^ 63 ∧
    Q .non (upd H l (.lst (xs.take i.toNat ++ [y] ++ xs.drop i.toNat)))) mInsert := by
  intro ow H l vs us xs ds P Q hl hv ha hu w q
  unfold mInsert at w
  split at w
  · cases hu with
    | cons h t =>
      cases t with
      | cons h2 t2 =>
        cases t2
        cases h
        exact ⟨l, vs, _, _, rfl, rfl, hv, by rw [ha.length]; exact w.1.1, w.1.2.1, w.1.2.2, q _ _ w.2 (((ha.take _).append (.cons h2 .nil)).append (ha.drop _))⟩
  · exact w.elim
def mExtend : OpM := fun xs ds P => match ds with
  | [.list ys] => xs.length + ys.length ≤ sizeLine ∧ P (xs ++ ys)
  | _ => False
theorem mo_extend {K : PySem.W.Frag} : MOk K rExtend mExtend := by
  intro ow H l vs us xs ds P Q hl hv ha hu w q
  unfold mExtend at w
  split at w
  · cases hu with
    | cons h t =>
      cases t
      cases h with
      | lst h1 h2 => exact ⟨l, _, vs, _, rfl, rfl, hv, hid_le _ _ h1, by rw [ha.length, h2.length]; exact w.1, q _ _ w.2 (ha.append h2)⟩
  · exact w.elim
/-- from here on the list of a slot is data -/
def wFrz (i : Nat) (w : WS) : WS := fun E ρ => match ρ[i]? with
  | some (some (.own xs)) => w E (ρ.set i (some (.d (.list xs))))
  | _ => False
theorem set_same {σ : L2.St} {i : Nat} {v : V} (h : σ[i]? = some (some v)) : σ.set i (some v) = σ := by
  apply List.ext_getElem?
  intro j
  by_cases hj : j = i
  · subst hj
    rw [h, List.getElem?_set_self (List.getElem?_eq_some_iff.mp h).1]
  · rw [List.getElem?_set_ne (Ne.symm hj)]
theorem Rel.frz {S : Hp} {ρ : Ev} {σ : L2.St} {H : Hp} {ow : List Addr} {i : Nat} {xs : List D} (r : Rel CL Z X.K ow0 Hb S ρ σ H ow) (g0 : Gr Z ow0 Hb) (hi : ρ[i]? = some (some (.own xs))) : ∃ ow', Rel CL Z X.K ow0 Hb S (ρ.set i (some (.d (.list xs)))) σ H ow' := by
  obtain ⟨v, as, h1, h2, r'⟩ := r.free g0 hi
  have h3 := h2.rv rfl
  have h4 : Dt X.K (hid (ow.filter (· ∉ as)) H) v (.list xs) := h3.kp rfl
  have r2 := r'.slot0 (i := i) (y := .d (.list xs)) ⟨rfl, h4⟩
  rw [List.set_set] at r2
  rw [set_same h1] at r2
  exact ⟨_, r2⟩
theorem sim_frz (i : Nat) {ss : List Stmt} {w : WS} (g0 : Gr Z ow0 Hb) (h : SimSs X W Z CL ow0 Hb ss w) : SimSs X W Z CL ow0 Hb ss (wFrz i w) := by
  intro S ρ σ H ow E D r w o
  unfold wFrz at w
  split at w
  · rename_i xs hi
    obtain ⟨ow', r'⟩ := r.frz g0 hi
    exact h S _ σ H ow' E D r' w o
  · exact w.elim
end
end Pd

/-! Pd10: promises of defs, calls, callables, raise. -/
namespace Pd
open PySem PySem.Spec PyProof.Rows L2
section
variable (P : Program) (w : World) (K : PySem.W.Frag) (mg : Str → Option Value) (base : Heap)
/-- the thing at f may be called with one argument: of data φ tells -/
structure Clb (kc : Nat) (Z : Ext) (f : Addr) (φ : Fn1) : Prop where
  keeps : PySem.W.keepIn K (.ref f) = true ∨ ∃ ψ, (f, ψ) ∈ Z.fns ∧ ∀ h, ψ h → PySem.W.FnAt f h
  run : ∀ (A : Around) (outer : List Env) (s : Shared) (H : Hp) (ow : List Addr) (u : Value) (v : V) (d : D) (R : D → Prop) (Q : VK) (E : XK), Room kc A → Env0 P w K mg base A outer s H → Gr Z ow H → RelV v u → Dt K (hid ow H) v d → φ d R →
    (∀ x v' H', R x → SameBut (fp Z) H H' → RZ Z H' → Dt K (hid ow H') v' x → Q v' H') → codeAny (model P w) A (.call (.ref f) ⟨[u], []⟩) (CR (L2.CX P w) outer P w H s Q E) s
abbrev Fs := List Val → (Val → Prop) → (Xn → Prop) → Prop
/-- as an argument is handed in -/
def argOk : Val → Bool
  | .d _ => true
  | .bag => true
  | .fn _ _ => true
  | .tr .held _ => true
  | _ => false
/-- the setting's tables, what is true of dicts with tuples as keys -/
structure ZOk (P : Program) (w : World) (TT : List (Addr × Str)) (Z : Ext) : Prop where
  tabs : Z.tabs = TT
/-- the lent trees stand in H -/
def HeldAt (Z : Ext) (H : Hp) : Prop := ∀ a o, Z.held a = some o → NT o ∧ H a = some o ∧ a ∉ fp Z
/-- what is wanted of each value that is handed back -/
def GdR (CL : Calls) (Z : Ext) (K : PySem.W.Frag) (ow : List Addr) (H0 : Hp) (P : Val → Prop) (Q : VK) : Prop := ∀ y v H', P y → retOk y = true → SameBut (fp Z) H0 H' → RZ Z H' → RV CL Z K ow H0 H' v y → Q v H'
/-- the promise of a def of n parameters -/
def spW (TT : List (Addr × Str)) (kc n : Nat) (Φ : Fs) : Sp := fun vs H Q E => vs.length = n ∧ ∃ (Z : Ext) (ow : List Addr) (_ : ZOk P w TT Z) (_ : HeldAt Z H) (ys : List Val) (R : Val → Prop) (Ex : Xn → Prop), Gr Z ow H ∧ RVs Z (Clb P w K mg base kc Z) K ow H H vs ys ∧ ys.all argOk = true ∧ Φ ys R Ex ∧
  GdR (Clb P w K mg base kc Z) Z K ow H R Q ∧ ∀ x cls d H', Ex x → ExR K ow mg x cls d H' → SameBut (fp Z) H H' → RZ Z H' → E cls d H'
end
section
variable {P : Program} {w : World} {K : PySem.W.Frag} {mg : Str → Option Value} {base : Heap} {TT : List (Addr × Str)} {kc : Nat}
/-- the slots at a body's beginning -/
def start0 (N : List Str) (ys : List Val) : Ev := ys.map some ++ List.replicate (N.length - ys.length) none
theorem rvs_get {CL : Calls} {Z : Ext} {ow : List Addr} {H0 H : Hp} : ∀ {vs : List V} {ys : List Val} {i : Nat} {y : Val}, RVs Z CL K ow H0 H vs ys → ys[i]? = some y → ∃ v, vs[i]? = some v ∧ RV CL Z K ow H0 H v y
  | _, _, _, _, .nil, e => by simp at e
  | _, _, 0, _, .cons h _, e => by simp at e; subst e; exact ⟨_, rfl, h⟩
  | _, _, i + 1, _, .cons _ t, e => by
    obtain ⟨v, h1, h2⟩ := rvs_get (i := i) t (by simpa using e)
    exact ⟨v, by simpa using h1, h2⟩
theorem rel_start {CL : Calls} {Z : Ext} {ow : List Addr} {H : Hp} {N : List Str} {vs : List V} {ys : List Val} (gr : Gr Z ow H) (hh : HeldAt Z H) (h : RVs Z CL K ow H H vs ys) (ha : ys.all argOk = true) : Rel CL Z K ow H (hid ow H) (start0 N ys) (L2.start N vs) H ow := by
  have hl := h.length
  have here : ∀ {i : Nat} {y : Val}, (start0 N ys)[i]? = some (some y) → ys[i]? = some y := fun {i y} e => by
    unfold start0 at e
    by_cases hi : i < ys.length
    · rw [List.getElem?_append_left (by simpa using hi), List.getElem?_map] at e
      cases q : ys[i]? with
      | none => rw [q] at e; cases e
      | some z => rw [q] at e; cases e; rfl
    · rw [List.getElem?_append_right (by simpa using hi), List.getElem?_replicate] at e
      split at e <;> cases e
  have ok : ∀ {y : Val}, y ∈ ys → argOk y = true := fun m => List.all_eq_true.mp ha _ m
  refine ⟨gr, ?_, .refl _ _, fun _ m => m, .refl _, hh, fun _ => [], fun i y e => ?_, fun i j a _ m _ => ?_, fun i _ => rfl⟩
  · unfold start0 L2.start
    simp [hl]
  · have e := here e
    obtain ⟨v, h1, h2⟩ := rvs_get h e
    have o := ok (List.mem_of_getElem? e)
    refine ⟨v, ?_, ?_⟩
    · have hi : i < vs.length := (List.getElem?_eq_some_iff.mp h1).1
      unfold L2.start
      rw [List.getElem?_append_left (by simpa using hi), List.getElem?_map, h1]
      rfl
    · cases y with
      | d x => exact ⟨rfl, h2⟩
      | own xs => cases o
      | bor xs => cases o
      | bag => exact ⟨rfl, h2⟩
      | fn f φ => exact ⟨rfl, h2⟩
      | tr m t =>
        cases m with
        | own => cases o
        | bor => cases o
        | held => exact ⟨rfl, h2.choose, h2.choose_spec.1⟩
  · cases m
/-- what a body's run is to do -/
def endW (R : Val → Prop) (Ex : Xn → Prop) : En := { nx := fun _ => R (.d .none), rt := fun y _ => R y, ex := fun x _ => Ex x }
/-- a def by its body -/
theorem fn_W {x qual : Str} {st : Stmt} {f : Addr} {fd : FuncData} {N ps : List Str} {k : Nat} {Φ : Fs} {wb : WS} (F : Fun K x qual st f fd) (S : FnScope N ps (defScope st))
    (hbody : ∀ (cdv : Value) (A : Around) (outer : List Env) (s : Shared) (H : Hp) (E : XK) (Z : Ext) (ow : List Addr), Room k (A.deeper (envOfC qual (defScope st) s.heap.objs.size f cdv)) → PySem.W.codeIn K cdv qual = true → ZOk P w TT Z → Gr Z ow H →
      SimSs (cxOf (L2.CX P w) P w K mg base N qual (defScope st) f cdv A outer s H E) (fun cls d _ H' => E cls d H') Z (Clb P w K mg base kc Z) ow H (defBody st) wb)
    (hv : ∀ ys R Ex, ys.length = ps.length → ys.all argOk = true → Φ ys R Ex → wb (endW R Ex) (start0 N ys)) : FnOk P w K mg base (L2.CX P w) (k + 1) f fd ps (spW P w K mg base TT kc ps.length Φ) := by
  obtain ⟨oc, od, kV, doc, pm, an, cdv, ct, osl, rfl, lk, hcd⟩ := F.ex
  refine fn_of lk hcd S (fun vs H Q E h => h.1) fun A outer s H vs Q E hr h => ?_
  obtain ⟨hl, Z, ow, hT, hh, ys, R, Ex, gr, hy, ha, hΦ, hQ, hE⟩ := h
  refine ⟨_, PSsat.ps, ?_⟩
  refine hbody cdv A outer s H E Z ow hr hcd hT gr (hid ow H) (start0 N ys) _ H ow (endW R Ex) _ (rel_start gr hh hy ha) (hv ys R Ex (by rw [← hy.length]; exact hl) ha hΦ) ⟨fun ρ σ H' ow' p r => ?_, fun _ _ _ _ p _ => p.elim, fun _ _ _ _ p _ => p.elim, fun y v ρ σ H' ow' p r h ok => hQ y v H' p ok r.sb r.gr.ext (h.less ok r.sub), fun x ρ σ H' ow' cls d p r er => ?_⟩
  · exact hQ (.d .none) .non H' p rfl r.sb r.gr.ext .non
  · refine hE x cls d H' p ⟨er.1, fun n => ?_⟩ r.sb r.gr.ext
    obtain ⟨dx, fs, h1, h2, h3, h4⟩ := er.2 n
    exact ⟨dx, fs, h1, h2, h3, DtAll.mono (hid_less r.sub) h4⟩
end
/-! ### calls -/
/-- as an argument of a call -/
def toArg : Val → Option Val
  | .d x => some (.d x)
  | .own xs => some (.d (.list xs))
  | .bor _ => none
  | .bag => some .bag
  | .fn f φ => some (.fn f φ)
  | .tr _ t => some (.tr .held t)
def toArgs : List Val → Option (List Val)
  | [] => some []
  | y :: ys => match toArg y, toArgs ys with
    | some a, some as => some (a :: as)
    | _, _ => none
/-- the nodes at L are lent -/
def Ext.lend (Z : Ext) (L : List Addr) (H : Hp) : Ext := { Z with held := fun a => if a ∈ L ∨ (Z.held a).isSome = true then H a else none }
theorem Gr.lend {Z : Ext} {L ow : List Addr} {H H1 : Hp} (g : Gr Z ow H) : Gr (Z.lend L H1) ow H := ⟨⟨g.ext.bag, g.ext.tabs, g.ext.fns⟩, g.fpo, g.isS⟩
theorem Gr.unlend {Z : Ext} {L ow : List Addr} {H H1 : Hp} (g : Gr (Z.lend L H1) ow H) : Gr Z ow H := ⟨⟨g.ext.bag, g.ext.tabs, g.ext.fns⟩, g.fpo, g.isS⟩
theorem RZ.lend {Z : Ext} {L : List Addr} {H H1 : Hp} (g : RZ Z H) : RZ (Z.lend L H1) H := ⟨g.bag, g.tabs, g.fns⟩
theorem RZ.unlend {Z : Ext} {L : List Addr} {H H1 : Hp} (g : RZ (Z.lend L H1) H) : RZ Z H := ⟨g.bag, g.tabs, g.fns⟩
theorem Clb.lend {P : Program} {w : World} {K : PySem.W.Frag} {mg : Str → Option Value} {base : Heap} {kc : Nat} {Z : Ext} {L : List Addr} {H1 : Hp} {f : Addr} {φ : Fn1} (h : Clb P w K mg base kc Z f φ) : Clb P w K mg base kc (Z.lend L H1) f φ :=
  ⟨h.keeps, fun A outer s H ow u v d R Q E hr e0 gr rv hd p q => h.run A outer s H ow u v d R Q E hr e0 gr.unlend rv hd p fun x v' H' hx e z hd => q x v' H' hx e z.lend hd⟩
theorem Clb.unlend {P : Program} {w : World} {K : PySem.W.Frag} {mg : Str → Option Value} {base : Heap} {kc : Nat} {Z : Ext} {L : List Addr} {H1 : Hp} {f : Addr} {φ : Fn1} (h : Clb P w K mg base kc (Z.lend L H1) f φ) : Clb P w K mg base kc Z f φ :=
  ⟨h.keeps, fun A outer s H ow u v d R Q E hr e0 gr rv hd p q => h.run A outer s H ow u v d R Q E hr e0 gr.lend rv hd p fun x v' H' hx e z hd => q x v' H' hx e z.unlend hd⟩
theorem ZOk.lend {P : Program} {w : World} {TT : List (Addr × Str)} {Z : Ext} {L : List Addr} {H : Hp} (h : ZOk P w TT Z) : ZOk P w TT (Z.lend L H) := ⟨h.tabs⟩
section
variable {X : Cx} {W : WX} {Z : Ext} {CL : Calls} {ow0 : List Addr} {Hb : Hp} {TT : List (Addr × Str)} {kc : Nat}
theorem lend_at {H : Hp} {L : List Addr} {a : Addr} (h : a ∈ L ∨ (Z.held a).isSome = true) : (Z.lend L H).held a = H a := if_pos h
theorem HeldAt.lend {H : Hp} {L : List Addr} (hh : HeldAt Z H) (hL : ∀ a ∈ L, a ∉ fp Z ∧ ∃ o, NT o ∧ H a = some o) : HeldAt (Z.lend L H) H := fun a o e => by
  have e' : (if a ∈ L ∨ (Z.held a).isSome = true then H a else none) = some o := e
  split at e'
  · rename_i q
    rcases q with q | q
    · obtain ⟨n, u, t, hu⟩ := hL a q
      rw [hu] at e'
      cases e'
      exact ⟨t, hu, n⟩
    · obtain ⟨u, hu⟩ := Option.isSome_iff_exists.mp q
      obtain ⟨t, h1, h2⟩ := hh a u hu
      rw [h1] at e'
      cases e'
      exact ⟨t, h1, h2⟩
  · cases e'
/-- a value as an argument, what is lent being at L -/
theorem RV.lent {K : PySem.W.Frag} {ow : List Addr} {H0 H : Hp} {v : V} {y a : Val} {CL' : Calls} (hc : ∀ f φ, CL f φ → CL' f φ) (gr : Gr Z ow H) (hh : HeldAt Z H) (h : RV CL Z K ow H0 H v y) (e : toArg y = some a) :
    ∃ L : List Addr, (∀ a ∈ L, a ∉ fp Z ∧ ∃ o, NT o ∧ H a = some o) ∧ argOk a = true ∧ ∀ L' : List Addr, (∀ a ∈ L, a ∈ L') → RV CL' (Z.lend L' H) K ow H H v a := by
  cases y with
  | d x => cases e; exact ⟨[], fun a m => (by cases m), rfl, fun _ _ => h⟩
  | own xs => cases e; exact ⟨[], fun a m => (by cases m), rfl, fun _ _ => h.kp rfl⟩
  | bor xs => cases e
  | bag => cases e; exact ⟨[], fun a m => (by cases m), rfl, fun _ _ => h⟩
  | fn f φ => cases e; exact ⟨[], fun a m => (by cases m), rfl, fun _ _ => ⟨h.1, hc _ _ h.2⟩⟩
  | tr m t =>
    cases e
    cases m with
    | own =>
      obtain ⟨as, h1, h2, h3⟩ := h
      refine ⟨as, fun a m => ⟨fun z => (h3 a m).2 (gr.fpo a z), h1.there a m⟩, rfl, fun L' s => ⟨as, ?_, fun a m => ⟨fun z => (h3 a m).2 (gr.fpo a z), fun o q => ?_⟩⟩⟩
      · exact h1.mono (hid_less fun a m => List.mem_append_right _ m) fun a m o _ q => (lend_at (.inl (s a m))).trans q
      · rw [lend_at (.inl (s a m))] at q
        obtain ⟨u, t, hu⟩ := h1.there a m
        rw [hu] at q
        cases q
        exact ⟨t, hu⟩
    | bor =>
      obtain ⟨as, h1, h2⟩ := h
      refine ⟨as, fun a m => ⟨(h2 a m).2, h1.there a m⟩, rfl, fun L' s => ⟨as, ?_, fun a m => ⟨(h2 a m).2, fun o q => ?_⟩⟩⟩
      · exact h1.mono (fun _ _ q => q) fun a m o _ q => (lend_at (.inl (s a m))).trans q
      · rw [lend_at (.inl (s a m))] at q
        obtain ⟨u, t, hu⟩ := h1.there a m
        rw [hu] at q
        cases q
        exact ⟨t, hu⟩
    | held =>
      obtain ⟨as, h1, h2⟩ := h
      have eq : ∀ a ∈ as, ∀ L', (Z.lend L' H).held a = H a := fun a m L' => by
        obtain ⟨u, t, hu⟩ := h1.there a m
        exact lend_at (.inr (by rw [hu]; rfl))
      refine ⟨[], fun a m => (by cases m), rfl, fun L' s => ⟨as, ?_, fun a m => ⟨(h2 a m).1, fun o q => ?_⟩⟩⟩
      · exact h1.mono (fun _ _ q => q) fun a m o _ q => (eq a m L').trans (hh a o q).2.1
      · rw [eq a m L'] at q
        obtain ⟨u, t, hu⟩ := h1.there a m
        obtain ⟨t', hu', _⟩ := hh a u hu
        rw [hu'] at q
        cases q
        exact ⟨t', hu'⟩
theorem RVs.lent {K : PySem.W.Frag} {ow : List Addr} {H0 H : Hp} {CL' : Calls} (hc : ∀ f φ, CL f φ → CL' f φ) (gr : Gr Z ow H) (hh : HeldAt Z H) : ∀ {vs : List V} {ys as : List Val}, RVs Z CL K ow H0 H vs ys → toArgs ys = some as →
    ∃ L : List Addr, (∀ a ∈ L, a ∉ fp Z ∧ ∃ o, NT o ∧ H a = some o) ∧ as.all argOk = true ∧ as.length = ys.length ∧ ∀ L' : List Addr, (∀ a ∈ L, a ∈ L') → RVs (Z.lend L' H) CL' K ow H H vs as
  | _, _, _, .nil, e => by cases e; exact ⟨[], fun a m => (by cases m), rfl, rfl, fun _ _ => .nil⟩
  | _, _ :: ys, as, .cons (y := y) h t, e => by
    unfold toArgs at e
    cases e1 : toArg y with
    | none => rw [e1] at e; cases e
    | some a =>
      cases e2 : toArgs ys with
      | none => rw [e1, e2] at e; cases e
      | some bs =>
        rw [e1, e2] at e
        cases e
        obtain ⟨L1, n1, o1, h1⟩ := h.lent hc gr hh e1
        obtain ⟨L2, n2, o2, l2, h2⟩ := RVs.lent hc gr hh t e2
        exact ⟨L1 ++ L2, fun a m => (List.mem_append.mp m).elim (n1 a) (n2 a), by simp [o1, o2], by simp [l2], fun L' s => .cons (h1 L' fun a m => s a (List.mem_append_left _ m)) (h2 L' fun a m => s a (List.mem_append_right _ m))⟩
theorem RVs.calls {K : PySem.W.Frag} {ow : List Addr} {H0 H : Hp} {CL' : Calls} (hc : ∀ f φ, CL f φ → CL' f φ) : ∀ {vs : List V} {ys : List Val}, RVs Z CL K ow H0 H vs ys → RVs Z CL' K ow H0 H vs ys
  | _, _, .nil => .nil
  | _, _, .cons (y := y) h t => .cons (by
    cases y with
    | fn f φ => exact ⟨h.1, hc _ _ h.2⟩
    | d x => exact h
    | own xs => exact h
    | bor xs => exact h
    | bag => exact h
    | tr m t => cases m <;> exact h) (RVs.calls hc t)
theorem RV.unlend {K : PySem.W.Frag} {ow : List Addr} {H0 H H1 : Hp} {L : List Addr} {v : V} {y : Val} {CL' : Calls} (h : RV CL' (Z.lend L H1) K ow H0 H v y) (ok : retOk y = true) : RV CL Z K ow H0 H v y := by
  cases y with
  | d x => exact h
  | own xs => exact h
  | tr m t =>
    cases m with
    | own => exact h
    | bor => cases ok
    | held => cases ok
  | bor xs => cases ok
  | bag => cases ok
  | fn f φ => cases ok
/-- the promise's wish, by arguments that are told -/
theorem spW_at {P : Program} {w : World} {K : PySem.W.Frag} {mg : Str → Option Value} {base : Heap} {n : Nat} {Φ : Fs} {ow : List Addr} {H0 H1 : Hp} {vs : List V} {ys as : List Val} {R : Val → Prop} {Ex : Xn → Prop} {Q : VK} {E : XK} (hT : ZOk P w TT Z) (gr : Gr Z ow H1) (hh : HeldAt Z H1) (h1 : RVs Z (Clb P w K mg base kc Z) K ow H0 H1 vs ys) (ea : toArgs ys = some as)
    (hl : as.length = n) (hΦ : Φ as R Ex) (g : Gd (Clb P w K mg base kc Z) Z K ow H1 R Q) (b : ∀ x cls d H', Ex x → ExR K ow mg x cls d H' → SameBut (fp Z) H1 H' → RZ Z H' → E cls d H') : spW P w K mg base TT kc n Φ vs H1 Q E := by
  obtain ⟨L, n, q2, q3, q1⟩ : ∃ L : List Addr, (∀ a ∈ L, a ∉ fp Z ∧ ∃ o, NT o ∧ H1 a = some o) ∧ as.all argOk = true ∧ as.length = ys.length ∧ RVs (Z.lend L H1) (Clb P w K mg base kc (Z.lend L H1)) K ow H1 H1 vs as := by
    obtain ⟨L2, n2, q2, q3, q1⟩ := h1.lent (CL' := fun f φ => ∀ L, Clb P w K mg base kc (Z.lend L H1) f φ) (fun _ _ c L => c.lend) gr hh ea
    exact ⟨L2, n2, q2, q3, (q1 L2 fun _ m => m).calls fun _ _ c => c L2⟩
  exact ⟨by rw [h1.length, ← q3]; exact hl, Z.lend L H1, ow, hT.lend, hh.lend n, as, R, Ex, gr.lend, q1, q2, hΦ, fun y v H' p ok e z hv => g y v H' p e z.unlend (hv.unlend ok), fun x cls d H' ex er s z => b x cls d H' ex er s z.unlend⟩
theorem Rel.heldAt {K : PySem.W.Frag} {S : Hp} {ρ : Ev} {σ : L2.St} {H : Hp} {ow : List Addr} (r : Rel CL Z K ow0 Hb S ρ σ H ow) : HeldAt Z H := fun a o q => ⟨(r.held a o q).1, r.hold q, (r.held a o q).2.2⟩
/-- a def's call -/
def wCall (n : Nat) (Φ : Fs) (w : WA) : WE := fun ρ P Ex => w ρ (fun ys => match toArgs ys with
  | some as => as.length = n ∧ Φ as P Ex
  | none => False) Ex
theorem sim_call {k : Nat} {f : Addr} {fd : FuncData} {ps : List Str} {Φ : Fs} {x : Str} {p pos : Pos} {e : Expr} {es : List Expr} {wa : WA} (F : FnOk X.prog X.w X.K X.mg X.base (L2.CX X.prog X.w) k f fd ps (spW X.prog X.w X.K X.mg X.base TT kc ps.length Φ)) (hT : ZOk X.prog X.w TT Z) (hr : Room k X.A) (tk : Takes X W) (hg : Gl X x)
    (hm : X.mg x = some (.ref f)) (hk : PySem.W.keepIn X.K (.ref f) = true) (hb : Binds X.K fd ps []) (ha : SimA X W Z (Clb X.prog X.w X.K X.mg X.base kc Z) ow0 Hb (e :: es) wa)
    (hdb : (x == ("__debug__" : Str)) = false := by decide) (he : starEach (e :: es) X.env = (false, eval e X.env) :: starEach es X.env := by rfl) (hpl : (backTo pos (starEach es X.env)).any (·.1) = false := by rfl) :
    SimE X W Z (Clb X.prog X.w X.K X.mg X.base kc Z) ow0 Hb (.Call (.Name x p) (e :: es) [] pos) (wCall ps.length Φ wa) := by
  intro S ρ σ H ow R Ex Q r wq g b
  refine PEat.of (pe_callSD (E := L2.WE W) F hr hg hm hk hb .nil (passAt tk) PAat.pa hdb he hpl) ?_
  refine ha S ρ σ H ow _ _ _ r wq (fun ys vs H1 p1 e1 z1 h1 => ?_) b
  split at p1
  · rename_i as ea
    rw [List.append_nil]
    have r1 := r.step e1 z1
    exact spW_at hT r1.gr r1.heldAt h1 ea p1.1 p1.2 (g.step e1 r.gr.fpo) fun x cls d H' ex er s z => b x cls d H' ex er (e1.trans s) z
  · exact p1.elim
/-- the name of a def, handed on as a callable -/
def wFn (f : Addr) (φ : Fn1) : WE := fun _ P _ => P (.fn f φ)
theorem sim_fn {f : Addr} {φ : Fn1} {x : Str} {pos : Pos} (hg : Gl X x) (hm : X.mg x = some (.ref f)) (hc : CL f φ) (hdb : (x == ("__debug__" : Str)) = false := by decide) : SimE X W Z CL ow0 Hb (.Name x pos) (wFn f φ) :=
  fun S ρ σ H ow P Ex Q r w g b => PEat.of (pe_glob (v := .ref f) hg hm rfl hdb) (g _ _ H w (.refl _ _) r.gr.ext ⟨rfl, hc⟩)
/-- a def as a callable -/
theorem Clb.ofFn {P : Program} {w : World} {K : PySem.W.Frag} {mg : Str → Option Value} {base : Heap} {k : Nat} {f : Addr} {fd : FuncData} {p : Str} {Φ : Fs} {φ : Fn1} (F : FnOk P w K mg base (L2.CX P w) k f fd [p] (spW P w K mg base TT kc 1 Φ)) (hT : ZOk P w TT Z) (hk : k ≤ kc) (hkp : PySem.W.keepIn K (.ref f) = true) (hb : Binds K fd [p] [])
    (hφ : ∀ d R, φ d R → Φ [.d d] (fun y => match y with
      | .d x => R x
      | _ => False) (fun _ => False)) : Clb P w K mg base kc Z f φ := by
  refine ⟨.inl hkp, fun A outer s H ow u v d R Q E hr e0 gr rv hd hp hQ => ?_⟩
  have kin : K.In s.heap := e0.mod.kin.keeps fun b o e => (e0.bs b o e).1
  have b := hb s [u] kin rfl
  rw [List.append_nil] at b
  let Z' : Ext := { Z with held := fun _ => none }
  have g' : Gr Z' ow H := ⟨⟨gr.ext.bag, gr.ext.tabs, gr.ext.fns⟩, gr.fpo, gr.isS⟩
  refine F.run A outer s H ⟨[u], []⟩ [u] [v] Q E (hr.mono hk) e0 b (.cons rv .nil) ⟨rfl, Z', ow, ⟨hT.tabs⟩, (fun _ _ z => nomatch z), [.d d], _, fun _ => False, g', .cons hd .nil, rfl, hφ d R hp, fun y v' H' p _ e z h => ?_, fun _ _ _ _ z => z.elim⟩
  cases y with
  | d x => exact hQ x v' H' p e ⟨z.bag, z.tabs, z.fns⟩ h
  | own xs => exact (p : False).elim
  | bor xs => exact (p : False).elim
  | bag => exact (p : False).elim
  | fn f φ => exact (p : False).elim
  | tr m t => exact (p : False).elim
/-- a call of what a slot holds -/
def wCallV (i : Nat) (w : WE) : WE := fun ρ P Ex => match ρ[i]? with
  | some (some (.fn f φ)) => w ρ (fun y => match y.kp with
    | some d => φ d fun x => P (.d x)
    | none => False) Ex
  | _ => False
theorem sim_callV (i : Nat) {x : Str} {p pos : Pos} {e : Expr} {we : WE} (hr : Room kc X.A) (h : SimE X W Z (Clb X.prog X.w X.K X.mg X.base kc Z) ow0 Hb e we) (tk : Takes X W) (hN : X.N[i]? = some x := by rfl) (hv : Vis X.env.scope x := by first | exact Or.inl rfl | exact Or.inr (Or.inl rfl) | exact Or.inr (Or.inr rfl))
    (hdb : (x == ("__debug__" : Str)) = false := by decide) (hcd : (x == ("__classdict__" : Str)) = false := by decide)
    (he : starEach [e] X.env = (false, eval e X.env) :: starEach [] X.env := by rfl) (hpl : (backTo pos (starEach [] X.env)).any (·.1) = false := by rfl) : SimE X W Z (Clb X.prog X.w X.K X.mg X.base kc Z) ow0 Hb (.Call (.Name x p) [e] [] pos) (wCallV i we) := by
  intro S ρ σ H ow R Ex Q r w g b
  unfold wCallV at w
  split at w
  · rename_i f φ hy
    obtain ⟨v, h1, rfl, hc⟩ := r.val i _ hy
    refine ⟨fun pins s I => ?_⟩
    refine wpAny_Call_Name_kw (thn ((pe_var (pos := p) hN hv hdb hcd).run pins s σ H (fun v H1 => v = .ref f ∧ H1 = H) I ⟨.ref f, h1, rfl, rfl⟩) fun u s1 ⟨v, H1, I1, r1, q1⟩ => ?_)
    obtain ⟨rfl, rfl⟩ := q1
    cases r1
    have fin : ∀ (us : List Value) (s2 : Shared) (vs : List V) (H2 : Hp), Inv X pins σ H2 s2 → Vals vs us → (∃ v y d, vs = [v] ∧ RV (Clb X.prog X.w X.K X.mg X.base kc Z) Z X.K ow H1 H2 v y ∧ y.kp = some d ∧ (φ d fun x => R (.d x)) ∧ SameBut (fp Z) H1 H2 ∧ RZ Z H2) →
        wpAny (model X.prog X.w) X.A (call (.ref f) us) (EP X pins σ Q) X.xe s2 := fun us s2 vs H2 I2 rv ⟨v, y, d, ev, hv, hk, hφ, e2, z2⟩ => by
      subst ev
      obtain ⟨u, rfl, ru⟩ := rv.one
      refine wpAny_call (codeAny_mono (hc.run X.A X.stack s2 H2 ow u v d _ Q (L2.WE W σ) hr I2.env0 (r.gr.step e2 z2) ru (hv.kp hk) hφ fun x v' H' px e' z' h' => g (.d x) v' H' px (e2.trans e') z' h') fun r s' hq => ?_)
      cases r with
      | error e => exact passAt tk σ pins H2 s2 e s' I2 hq
      | ok fl =>
        cases fl with
        | ret u => exact I2.after hq
        | next => exact False.elim hq
        | brk => exact False.elim hq
        | cont => exact False.elim hq
    have harg : PAat X [e] σ H1 fun vs H2 => ∃ v y d, vs = [v] ∧ RV (Clb X.prog X.w X.K X.mg X.base kc Z) Z X.K ow H1 H2 v y ∧ y.kp = some d ∧ (φ d fun x => R (.d x)) ∧ SameBut (fp Z) H1 H2 ∧ RZ Z H2 := by
      refine PAat.of (pa_cons PEat.pe pa_nil he) (h S ρ σ H1 ow _ Ex _ r w (fun y v H2 p2 e2 z2 h2 => ?_) b)
      split at p2
      · rename_i d ed
        exact ⟨v, y, d, rfl, h2, ed, p2, e2, z2⟩
      · exact p2.elim
    rcases hc.keeps with hk | ⟨ψ, hF, hψ⟩
    · exact PySem.W.callWith_K (h₀ := X.base) I1.ok.mod.kin hk (thn (harg.go pos pins s1 I1) fun us s2 ⟨vs, H2, I2, rv, q⟩ => ⟨I2.kIn, fin us s2 vs H2 I2 rv q⟩) he hpl
    · have at_ : ∀ {H2 : Hp} {s2 : Shared}, Inv X pins σ H2 s2 → RZ Z H2 → PySem.W.FnAt f s2.heap := fun {H2 s2} I2 z2 => by
        obtain ⟨q, _⟩ := I2.hok f _ (z2.fns _ hF)
        exact hψ _ q
      exact PySem.W.callWith_F (at_ I1 r.gr.ext) (thn (harg.go pos pins s1 I1) fun us s2 ⟨vs, H2, I2, rv, q⟩ => ⟨at_ I2 q.choose_spec.choose_spec.choose_spec.2.2.2.2.2, fin us s2 vs H2 I2 rv q⟩) he hpl
  · exact w.elim
end
end Pd

/-! Pd11: defs that are entered with nothing being shown; an own exception without arguments raised. -/
namespace Pd
open PySem PySem.Spec PyProof.Rows L2
/-- a def's promise where no text is being made around the call -/
structure GnOk (P : Program) (w : World) (K : PySem.W.Frag) (mg : Str → Option Value) (base : Heap) (k : Nat) (f : Addr) (fd : FuncData) (ps : List Str) (sp : Sp) : Prop where
  len : ∀ vs H Q E, sp vs H Q E → vs.length = ps.length
  run : ∀ (A : Around) (outer : List Env) (s : Shared) (H : Hp) (args : Args) (us : List Value) (vs : List V) (Q : VK) (E : XK), A.guards = some [] → Room k A → Env0 P w K mg base A outer s H → BindsTo s fd args (ps.zip us) → Vals vs us → sp vs H Q E →
    codeAny (model P w) A (.call (.ref f) args) (CR (L2.CX P w) outer P w H s Q E) s
section
variable {P : Program} {w : World} {K : PySem.W.Frag} {mg : Str → Option Value} {base : Heap} {TT : List (Addr × Str)} {kc : Nat}
theorem GnOk.of {k : Nat} {f : Addr} {fd : FuncData} {ps : List Str} {sp : Sp} (F : FnOk P w K mg base (L2.CX P w) k f fd ps sp) : GnOk P w K mg base k f fd ps sp := ⟨F.len, fun A outer s H args us vs Q E _ hr e0 hb rv h => F.run A outer s H args us vs Q E hr e0 hb rv h⟩
theorem gn_raw {x qual : Str} {st : Stmt} {f : Addr} {fd : FuncData} {N ps : List Str} {k : Nat} {sp : Sp} (F : Fun K x qual st f fd) (S : FnScope N ps (defScope st)) (len : ∀ vs H Q E, sp vs H Q E → vs.length = ps.length)
    (hbody : ∀ (cdv : Value) (A : Around) (outer : List Env) (s : Shared) (H : Hp) (vs : List V) (Q : VK) (E : XK), A.guards = some [] → Room k (A.deeper (envOfC qual (defScope st) s.heap.objs.size f cdv)) → PySem.W.codeIn K cdv qual = true → sp vs H Q E →
      ∃ t, PSs (cxOf (L2.CX P w) P w K mg base N qual (defScope st) f cdv A outer s H E) (defBody st) t ∧ t { nx := fun _ H' => Q .non H', rt := Q } (L2.start N vs) H) : GnOk P w K mg base (k + 1) f fd ps sp := by
  obtain ⟨oc, od, kV, doc, pm, an, cdv, ct, osl, rfl, lk, hcd⟩ := F.ex
  exact ⟨len, fun A outer s H args us vs Q E hg hr e0 hb rv h => LamX.run_ofS lk hcd S hr e0 hb rv (len _ _ _ _ h) fun hr' => hbody cdv A outer s H vs Q E hg hr' hcd h⟩
/-- as fn_W -/
theorem gn_W {x qual : Str} {st : Stmt} {f : Addr} {fd : FuncData} {N ps : List Str} {k : Nat} {Φ : Fs} {wb : WS} (F : Fun K x qual st f fd) (S : FnScope N ps (defScope st))
    (hbody : ∀ (cdv : Value) (A : Around) (outer : List Env) (s : Shared) (H : Hp) (E : XK) (Z : Ext) (ow : List Addr), (A.deeper (envOfC qual (defScope st) s.heap.objs.size f cdv)).guards = some [] → Room k (A.deeper (envOfC qual (defScope st) s.heap.objs.size f cdv)) → PySem.W.codeIn K cdv qual = true → ZOk P w TT Z → Gr Z ow H →
      SimSs (cxOf (L2.CX P w) P w K mg base N qual (defScope st) f cdv A outer s H E) (fun cls d _ H' => E cls d H') Z (Clb P w K mg base kc Z) ow H (defBody st) wb)
    (hv : ∀ ys R Ex, ys.length = ps.length → ys.all argOk = true → Φ ys R Ex → wb (endW R Ex) (start0 N ys)) : GnOk P w K mg base (k + 1) f fd ps (spW P w K mg base TT kc ps.length Φ) := by
  refine gn_raw F S (fun vs H Q E h => h.1) fun cdv A outer s H vs Q E hg hr hcd h => ?_
  obtain ⟨hl, Z, ow, hT, hh, ys, R, Ex, gr, hy, ha, hΦ, hQ, hE⟩ := h
  refine ⟨_, PSsat.ps, ?_⟩
  refine hbody cdv A outer s H E Z ow hg hr hcd hT gr (hid ow H) (start0 N ys) _ H ow (endW R Ex) _ (rel_start gr hh hy ha) (hv ys R Ex (by rw [← hy.length]; exact hl) ha hΦ) ⟨fun ρ σ H' ow' p r => ?_, fun _ _ _ _ p _ => p.elim, fun _ _ _ _ p _ => p.elim, fun y v ρ σ H' ow' p r h ok => hQ y v H' p ok r.sb r.gr.ext (h.less ok r.sub), fun x ρ σ H' ow' cls d p r er => ?_⟩
  · exact hQ (.d .none) .non H' p rfl r.sb r.gr.ext .non
  · refine hE x cls d H' p ⟨er.1, fun n => ?_⟩ r.sb r.gr.ext
    obtain ⟨dx, fs, h1, h2, h3, h4⟩ := er.2 n
    exact ⟨dx, fs, h1, h2, h3, DtAll.mono (hid_less r.sub) h4⟩
end
section
variable {X : Cx} {W : WX} {Z : Ext} {CL : Calls} {ow0 : List Addr} {Hb : Hp} {TT : List (Addr × Str)} {kc : Nat}
theorem sim_callG {k : Nat} {f : Addr} {fd : FuncData} {ps : List Str} {Φ : Fs} {x : Str} {p pos : Pos} {e : Expr} {es : List Expr} {wa : WA} (F : GnOk X.prog X.w X.K X.mg X.base k f fd ps (spW X.prog X.w X.K X.mg X.base TT kc ps.length Φ)) (hT : ZOk X.prog X.w TT Z) (hgd : X.A.guards = some []) (hr : Room k X.A) (tk : Takes X W) (hg : Gl X x)
    (hm : X.mg x = some (.ref f)) (hk : PySem.W.keepIn X.K (.ref f) = true) (hb : Binds X.K fd ps []) (ha : SimA X W Z (Clb X.prog X.w X.K X.mg X.base kc Z) ow0 Hb (e :: es) wa)
    (hdb : (x == ("__debug__" : Str)) = false := by decide) (he : starEach (e :: es) X.env = (false, eval e X.env) :: starEach es X.env := by rfl) (hpl : (backTo pos (starEach es X.env)).any (·.1) = false := by rfl) :
    SimE X W Z (Clb X.prog X.w X.K X.mg X.base kc Z) ow0 Hb (.Call (.Name x p) (e :: es) [] pos) (wCall ps.length Φ wa) := by
  intro S ρ σ H ow R Ex Q r wq g b
  refine ⟨fun pins s I => ?_⟩
  have fin : PAat X (e :: es) σ H fun vs H1 => spW X.prog X.w X.K X.mg X.base TT kc ps.length Φ vs H1 Q (L2.WE W σ) := by
    refine ha S ρ σ H ow _ _ _ r wq (fun ys vs H1 p1 e1 z1 h1 => ?_) b
    split at p1
    · rename_i as ea
      have r1 := r.step e1 z1
      exact spW_at hT r1.gr r1.heldAt h1 ea p1.1 p1.2 (g.step e1 r.gr.fpo) fun x cls d H' ex er s z => b x cls d H' ex er (e1.trans s) z
    · exact p1.elim
  refine wpAny_Call_Name_kw (ld_glob I hg hm ?_ hdb)
  refine PySem.W.callWith_K (h₀ := X.base) I.ok.mod.kin hk (thn (fin.go pos pins s I) fun us s1 ⟨vs, H1, I1, rv, q⟩ => ⟨I1.kIn, ?_⟩) he hpl
  have hl : us.length = ps.length := by rw [← rv.length]; exact F.len _ _ _ _ q
  have b' := hb s1 us I1.kIn (by rw [List.append_nil]; exact hl)
  rw [List.append_nil] at b'
  refine wpAny_call (codeAny_mono (F.run X.A X.stack s1 H1 ⟨us, []⟩ us vs Q (L2.WE W σ) hgd hr I1.env0 b' rv q) fun r s' hq => ?_)
  cases r with
  | error e => exact passAt tk σ pins H1 s1 e s' I1 hq
  | ok fl =>
    cases fl with
    | ret u => exact I1.after hq
    | next => exact False.elim hq
    | brk => exact False.elim hq
    | cont => exact False.elim hq
/-- an own exception without fields of its own -/
structure XCls (K : PySem.W.Frag) (mg : Str → Option Value) (x : Str) : Prop where
  ex : ∃ (C : Addr) (B newId initId : String) (bmB : List Value), ExcBaseFacts B newId initId bmB ∧ PySem.W.excIn K C bmB newId = true ∧ mg x = some (.ref C) ∧ PySem.W.keepIn K (.ref C) = true ∧ PySem.W.subIn K (.ref C) (.type "BaseException") = some true ∧ PySem.W.typeIn K (.ref C) = some (.type "type")
theorem pmk_own0 {C : Addr} {bmB : List Value} {B newId initId : String} {x : Str} {p pos : Pos} (F : ExcBaseFacts B newId initId bmB) (q : PySem.W.excIn X.K C bmB newId = true) (gC : X.mg x = some (.ref C)) (kC : PySem.W.keepIn X.K (.ref C) = true) (r : Raises X (.ref C)) (hg : Gl X x)
    (hdb : (x == ("__debug__" : Str)) = false := by decide) : PMk X (.Call (.Name x p) [] [] pos) (fun _ H Q => Q (.ref C) none H) := by
  intro pins s σ H Q I h
  refine wpAny_Call_Name_kw (ld_glob I hg gC (PySem.W.callWith_K0 I.kIn kC ?_) hdb)
  obtain ⟨bm, N, nm, qn, bs, hdct, sn, sub, ab, col, dd, k0, k1, k2, k3, k5, mN, hC, hN, hni, T⟩ := exc_obj I.kIn q
  exact wpAny_call_exc_subT F T hC hN hni (fun h' e hm => mk_of I hm r h (I.hok.gone hm.new)) (Nat.zero_le _)
/-- raise X() -/
def wRaise0 (x : Str) : WS := fun E ρ => E.ex ⟨x, []⟩ ρ
theorem sim_raise0 {x : Str} {p pos pos' : Pos} (hc : X.calm = true) (tk : Takes X W) (hx : XCls X.K X.mg x) (hg : Gl X x) (hdb : (x == ("__debug__" : Str)) = false := by decide) : SimS X W Z CL ow0 Hb (.Raise (some (.Call (.Name x p) [] [] pos)) none pos') (wRaise0 x) := by
  intro S ρ σ H ow E D r w o
  obtain ⟨C, B, newId, initId, bmB, F, q, gC, kC, h1, h2⟩ := hx.ex
  exact PSat.of (ps_raise hc tk (pmk_own0 F q gC kC (raises_own h1 h2) hg hdb)) (o.ex ⟨x, []⟩ ρ σ H ow (.ref C) none w r ⟨⟨C, gC, rfl⟩, fun n => (n rfl).elim⟩)
end
end Pd

/-! Pd12: a lambda of one parameter that captures nothing, handed to a def. -/
namespace Pd
open PySem PySem.Spec PyProof.Rows L2
/-- what stands at f: the lambda of these words -/
def LamP (f : Addr) (qual : Str) (params : Arguments) (body : Expr) (scope : Scope) (cl : List (Str × Addr)) (c' : Addr) : Heap → Prop := fun h => ∃ pm ctv, h.get? f = some (PySem.W.kla_obj "<lambda>" qual params body scope cl pm c' ctv)
/-- what stands at c: a code object -/
def CdP (c : Addr) (q : Str) : Heap → Prop := match LamX.CodeO c q with
  | .ext φ => φ
  | _ => fun _ => False
section
variable {X : Cx} {pins : List (Addr × Obj)} {σ : L2.St} {H : Hp} {s : Shared}
theorem lam_tracked {qual : Str} {params : Arguments} {body : Expr} {scope : Scope} {cl : List (Str × Addr)} {c' : Addr} {pm ctv : Value} {t' : Nat} (I : Inv X pins σ H s) :
    Inv X pins σ (upd H s.heap.objs.size (.ext (LamP s.heap.objs.size qual params body scope cl c'))) { s with heap := s.heap.push (PySem.W.kla_obj "<lambda>" qual params body scope cl pm c' ctv), toks := t' } := by
  have here : (s.heap.push (PySem.W.kla_obj "<lambda>" qual params body scope cl pm c' ctv)).get? s.heap.objs.size = some (PySem.W.kla_obj "<lambda>" qual params body scope cl pm c' ctv) := Heap.get?_push_size _ rfl
  exact I.laid (fun b u e => Heap.get?_push_of_some _ e) (Nat.le_refl _) ⟨⟨pm, ctv, here⟩, ⟨_, here⟩, fun h1 h2 ⟨pm, ctv, z⟩ st => ⟨pm, ctv, st _ z⟩⟩
/-- a lambda is made, and known from then on -/
theorem lam_made {T : List (Addr × Str)} {c P : Addr} {params : Arguments} {body : Expr} {scope : Scope} {pos : Pos} {E Q : Value → Shared → Prop} (I : Inv X pins σ H s) (TB : LamX.TabB X.base X.mg c P) (hcode : X.env.code = .ref c) (hm : (P, X.env.qual ++ "<lambda>") ∈ T)
    (hu : ∀ p ∈ T, p.1 = P → p.2 = X.env.qual ++ "<lambda>") (hT : LamX.Tabs T H) (hdef : defaultsOf params X.env = ([], [])) (hfree : ∀ y ∈ scope.names, y.2 = .free → ∃ c, X.env.cells.lookup y.1 = some c)
    (done : ∀ (f c' : Addr) (H1 : Hp) (s' : Shared), Inv X pins σ H1 s' → LamX.ExtN H H1 → LamX.Tabs T H1 → H f = none → H c' = none ∨ H c' = some (LamX.CodeO c' (X.env.qual ++ "<lambda>")) →
      H1 f = some (.ext (LamP f (X.env.qual ++ "<lambda>") params body scope (cloFrom X.env.cells scope.names []) c')) → H1 c' = some (LamX.CodeO c' (X.env.qual ++ "<lambda>")) → Q (.ref f) s') :
    wpAny (model X.prog X.w) X.A (eval (.Lambda params body scope pos) X.env) Q E s := by
  refine PySem.W.kla_eval hdef ?_
  obtain ⟨tab, tabAt, tabOk, tabHas⟩ := hT _ hm
  have tabObj := I.hok P _ tabAt
  have glob := I.mod.glob.keeps I.bk
  have hd := TB.code.keeps I.bk
  have bm : s.heap.BuiltinsAt X.mg P := TB.bm.keeps I.bk
  -- what was told by H1 is told by H1 with the lambda's place
  have grow : ∀ {G : Hp} {f : Addr} {o : HO}, G f = none → LamX.ExtN G (upd G f o) ∧ ∀ b u, G b = some u → upd G f o b = some u := fun {G f o} n => ⟨fun b u e _ => (upd_ne (ne_of_none e n)).trans e, fun b u e => (upd_ne (ne_of_none e n)).trans e⟩
  rcases hfound : codeAmong pos tab.toList with _ | cv
  · refine PySem.W.kla_makeFunction (closure_ok hfree) I.ok.glob glob hcode hd tabObj tabOk hfound TB.gP bm fun c' ctv h' tk kept above below isCode tabNow => ?_
    obtain ⟨_, oc, fields, tok, e, ocAt, ocData, ocName⟩ := isCode
    cases e
    have noC : H c' = none := I.hok.fresh above
    have J := LamX.inv_table (q := X.env.qual ++ "<lambda>") (t' := tk) I tabAt (fun b o n => kept b o n) tabNow above ⟨oc, fields, tok, ocAt, ocData, ocName⟩
    have noF := J.hok.fresh (Nat.le_refl h'.objs.size)
    have old : LamX.ExtN H (upd (upd H P (.tbl (tab ++ #[rawInt pos.line, rawInt pos.col, .ref c']))) c' (LamX.CodeO c' (X.env.qual ++ "<lambda>"))) := fun b o e n =>
      (upd_ne (ne_of_none e noC)).trans ((upd_ne fun z => n tab (Option.some.inj (by rw [← e, z, tabAt]))).trans e)
    have tabs : LamX.Tabs T (upd (upd H P (.tbl (tab ++ #[rawInt pos.line, rawInt pos.col, .ref c']))) c' (LamX.CodeO c' (X.env.qual ++ "<lambda>"))) := by
      intro p hp
      by_cases same : p.1 = P
      · rw [hu p hp same, same]
        have split3 : (tab ++ #[rawInt pos.line, rawInt pos.col, .ref c']).toList = tab.toList ++ [rawInt pos.line, rawInt pos.col, .ref c'] := by simp
        refine ⟨tab ++ #[rawInt pos.line, rawInt pos.col, .ref c'], (upd_ne (ne_of_none tabAt noC)).trans upd_same, by rw [split3]; exact PySem.TriplesOk_snoc _ _ _ _ tabOk, ?_⟩
        intro at_ v hv
        rw [split3] at hv
        rcases LamX.among_app _ tabOk hv with z | rfl
        · obtain ⟨c0, e1, e2⟩ := tabHas at_ v z
          exact ⟨c0, e1, old _ _ e2 LamX.codeO_ne⟩
        · exact ⟨c', rfl, upd_same⟩
      · obtain ⟨tb, a1, a2, a3⟩ := hT p hp
        refine ⟨tb, (upd_ne (ne_of_none a1 noC)).trans ((upd_ne same).trans a1), a2, fun at_ v hv => ?_⟩
        obtain ⟨c0, e1, e2⟩ := a3 at_ v hv
        exact ⟨c0, e1, old _ _ e2 LamX.codeO_ne⟩
    have J2 := lam_tracked (qual := X.env.qual ++ "<lambda>") (params := params) (body := body) (scope := scope) (cl := cloFrom X.env.cells scope.names []) (c' := c') (pm := (X.mg "__name__").getD .none) (ctv := ctv) (t' := tk) J
    have fOld : H h'.objs.size = none := by
      cases q : H h'.objs.size with
      | none => rfl
      | some o =>
        have := (I.hok _ o q).lt
        exact absurd (Nat.lt_of_lt_of_le this (Nat.le_of_lt (Nat.lt_of_le_of_lt above below))) (Nat.lt_irrefl _)
    exact done _ c' _ _ J2 (old.trans (grow noF).1) (tabs.ext (grow noF).2) fOld (.inl noC) upd_same ((grow noF).2 _ _ upd_same)
  · obtain ⟨c', rfl, known⟩ := tabHas pos cv hfound
    refine PySem.W.kla_makeFunctionHit (closure_ok hfree) I.ok.glob glob hcode hd tabObj tabOk hfound bm fun ctv h' tk kept size => ?_
    have J : Inv X pins σ H { s with heap := h', toks := tk } := I.kept kept
    have noF : H h'.objs.size = none := J.hok.fresh (Nat.le_refl _)
    have J2 := lam_tracked (qual := X.env.qual ++ "<lambda>") (params := params) (body := body) (scope := scope) (cl := cloFrom X.env.cells scope.names []) (c' := c') (pm := (X.mg "__name__").getD .none) (ctv := ctv) (t' := tk) J
    exact done _ c' _ _ J2 (grow noF).1 (hT.ext (grow noF).2) noF (.inr known) upd_same ((grow noF).2 _ _ known)
end

/-! ### as a callable -/
def Ext.plus (Z : Ext) (l : List (Addr × (Heap → Prop))) : Ext := { Z with fns := l ++ Z.fns }
theorem RB.lists {z : Option (Addr × Addr)} {H : Hp} (h : RB z H) : ∀ a ∈ fpB z, ∃ us, H a = some (.lst us) := by
  cases z with
  | none => intro a m; simp [fpB] at m
  | some z =>
    obtain ⟨b, c⟩ := z
    obtain ⟨b0, b1, b2, cs, h1, h2, _⟩ := h
    intro a m
    simp [fpB] at m
    rcases m with rfl | rfl
    · exact ⟨_, h1⟩
    · exact ⟨_, h2⟩
theorem RZ.minus {Z : Ext} {l : List (Addr × (Heap → Prop))} {H : Hp} (h : RZ (Z.plus l) H) : RZ Z H := ⟨h.bag, h.tabs, fun p m => h.fns p (List.mem_append_right _ m)⟩
theorem RZ.plus {Z : Ext} {l : List (Addr × (Heap → Prop))} {H : Hp} (h : RZ Z H) (hl : ∀ p ∈ l, H p.1 = some (.ext p.2)) : RZ (Z.plus l) H := ⟨h.bag, h.tabs, fun p m => (List.mem_append.mp m).elim (hl p) (h.fns p)⟩
theorem RZ.again {Z : Ext} {l : List (Addr × (Heap → Prop))} {H H' : Hp} (h0 : RZ (Z.plus l) H) (e : SameBut (fp Z) H H') (h : RZ Z H') : RZ (Z.plus l) H' := h.plus fun p m => by
  have q := h0.fns p (List.mem_append_left _ m)
  refine e _ _ (fun z => ?_) (fun ps z => by cases z) q
  obtain ⟨us, e'⟩ := h0.bag.lists _ z
  rw [q] at e'
  cases e'
theorem Gr.minus {Z : Ext} {l : List (Addr × (Heap → Prop))} {ow : List Addr} {H : Hp} (g : Gr (Z.plus l) ow H) : Gr Z ow H := ⟨g.ext.minus, g.fpo, g.isS⟩
theorem Clb.grow {P : Program} {w : World} {K : PySem.W.Frag} {mg : Str → Option Value} {base : Heap} {kc : Nat} {Z : Ext} {l : List (Addr × (Heap → Prop))} {f : Addr} {φ : Fn1} (h : Clb P w K mg base kc Z f φ) : Clb P w K mg base kc (Z.plus l) f φ := by
  refine ⟨h.keeps.imp id fun ⟨ψ, m, q⟩ => ⟨ψ, List.mem_append_right _ m, q⟩, fun A outer s H ow u v d R Q E hr e0 gr rv hd hp hQ => ?_⟩
  exact h.run A outer s H ow u v d R Q E hr e0 gr.minus rv hd hp fun x v' H' p e z hx => hQ x v' H' p e (gr.ext.again e z) hx
/-- the words of a lambda, for its context -/
abbrev lamNF (qual : Str) (params : Arguments) (scope : Scope) (c' : Addr) : NdefX.NF := ⟨"<lambda>", qual, params, [], scope, [], c'⟩
/-- lent otherwise -/
def Ext.hold (Z : Ext) (h : Hp) : Ext := { Z with held := h }
theorem Clb.hold {P : Program} {w : World} {K : PySem.W.Frag} {mg : Str → Option Value} {base : Heap} {kc : Nat} {Z : Ext} {hl : Hp} {f : Addr} {φ : Fn1} (h : Clb P w K mg base kc Z f φ) : Clb P w K mg base kc (Z.hold hl) f φ :=
  ⟨h.keeps, fun A outer s H ow u v d R Q E hr e0 gr rv hd p q => h.run A outer s H ow u v d R Q E hr e0 ⟨⟨gr.ext.bag, gr.ext.tabs, gr.ext.fns⟩, gr.fpo, gr.isS⟩ rv hd p fun x v' H' hx e z hd => q x v' H' hx e ⟨z.bag, z.tabs, z.fns⟩ hd⟩
theorem Clb.ofLam {P : Program} {w : World} {K : PySem.W.Frag} {mg : Str → Option Value} {base : Heap} {kc j : Nat} {Z : Ext} {f c' : Addr} {qual p : Str} {params : Arguments} {body : Expr} {scope : Scope} {N : List Str} {we : WE} (hj : j + 1 ≤ kc) (S : NdefX.NScope N [p] [] scope)
    (hbind : ∀ (u : Value) (pm cv ctv : Value), bindArgs (PySem.W.kla_fn "<lambda>" qual params body scope [] pm cv ctv) ⟨[u], []⟩ = pure [(p, u)]) (hf : (f, LamP f qual params body scope [] c') ∈ Z.fns) (hc : (c', CdP c' qual) ∈ Z.fns) (hz : ∀ a o, Z.held a ≠ some o)
    (hbody : ∀ (A : Around) (outer : List Env) (s : Shared) (H : Hp) (E : XK) (ow : List Addr), Room j (A.deeper (NdefX.envF (lamNF qual params scope c') f s.heap.objs.size)) → Gr Z ow H →
      SimE (NdefX.ncx (L2.CX P w) P w K mg base N (lamNF qual params scope c') f A outer s H E) (fun cls d _ H' => E cls d H') Z (Clb P w K mg base kc Z) ow H body we) :
    Clb P w K mg base kc Z f fun d R => we (start0 N [.d d]) (fun y => match y.kp with
      | some x => R x
      | none => False) fun _ => False := by
  refine ⟨.inr ⟨_, hf, fun h ⟨pm, ctv, e⟩ => ⟨_, _, _, _, e⟩⟩, fun A outer s H ow u v d R Q E hr e0 gr rv hd hp hQ => ?_⟩
  obtain ⟨⟨pm, ctv, ho⟩, _⟩ := e0.hok f _ (gr.ext.fns _ hf)
  have hcode := NdefX.codeO_at e0.hok (show H c' = some (LamX.CodeO c' qual) from gr.ext.fns _ hc)
  have lim : s.heap.NoLimit := e0.mod.nolimit.keeps fun b o e => (e0.bs b o e).1
  refine PySem.W.kla_callFunE hr.depth ho rfl S.co S.gen rfl hcode ?_
  rw [hbind]
  refine wpAny_pure (wpAny_newFunctionEnv S.nocell (fun y hy => ?_) (fun h₁ hns hsb => ⟨lim.fresh _ hsb, ?_⟩) S.kind)
  · simp only [List.mem_singleton] at hy
    subst hy
    exact S.par p (by simp)
  show codeAny _ _ (.expr body (NdefX.envF (lamNF qual params scope c') f s.heap.objs.size)) _ _
  have kp : ∀ b o, s.heap.get? b = some o → h₁.get? b = some o := fun b o e => hsb.extBut b o (Nat.ne_of_lt (Heap.lt_size e)) (Heap.get?_push_of_some _ e)
  have J : Inv (NdefX.ncx (L2.CX P w) P w K mg base N (lamNF qual params scope c') f A outer s H E) [] (NdefX.startF N [v] []) H { s with heap := h₁, toks := s.toks + [(p, u)].length } :=
    NdefX.inv_startN (ps := [p]) (fr := []) (us := [u]) S hr.hd e0 rfl (.cons rv .nil) ⟨rfl, fun y c e => (nomatch e), fun x y c e => (nomatch e), fun i y e => by simp at e⟩ hns kp
  have e1 : NdefX.startF N [v] [] = L2.start N [v] := by simp [NdefX.startF, L2.start]
  rw [e1] at J
  have rel := rel_start (CL := Clb P w K mg base kc Z) (N := N) gr (fun a o z => absurd z (hz a o)) (RVs.cons (y := .d d) hd .nil) rfl
  refine PySem.W.kla_codeExpr (wpAny_mono ((hbody A outer s H E ow ((hr.mono hj).deeper _) gr (hid ow H) _ _ H ow _ _ Q rel hp (fun y v' H' p e z q => ?_) (fun _ _ _ _ z => z.elim)).go [] _ J) (fun v' s' hq => ?_) fun e s' hq => hq)
  · split at p
    · rename_i x ex
      exact hQ x v' H' p e z (q.kp ex)
    · exact p.elim
  · obtain ⟨w', H', J', rv', q⟩ := hq
    exact ⟨w', H', J'.os, J'.bare, J'.base, J'.hok, rv', q⟩

/-! ### x(e, lambda p: body) -/
def noFn : Val → Bool
  | .fn _ _ => false
  | _ => true
def wCallL (Φ : Fs) (φ : Fn1) (w : WE) : WE := fun ρ P Ex => w ρ (fun y => match toArg y with
  | some a => ∀ f, Φ [a, .fn f φ] (fun z => noFn z = true ∧ P z) Ex
  | none => False) Ex
section
variable {X : Cx} {W : WX} {Z : Ext} {ow0 : List Addr} {Hb : Hp} {TT : List (Addr × Str)} {kc : Nat}
theorem RV.noFn {CL CL' : Calls} {l : List (Addr × (Heap → Prop))} {K : PySem.W.Frag} {ow : List Addr} {H0 H : Hp} {v : V} {y : Val} (h : RV CL (Z.plus l) K ow H0 H v y) (n : noFn y = true) : RV CL' Z K ow H0 H v y := by
  cases y with
  | fn f φ => cases n
  | d x => exact h
  | own xs => exact h
  | bor xs => exact h
  | bag => exact h
  | tr m t => cases m <;> exact h
theorem extN_same {fp : List Addr} {H H' : Hp} (e : LamX.ExtN H H') : SameBut fp H H' := fun a o _ t q => e a o q t
theorem RZ.extN {H H' : Hp} (h : RZ Z H) (e : LamX.ExtN H H') (t : LamX.Tabs Z.tabs H') : RZ Z H' := ⟨h.bag.frame fun a m => by
  obtain ⟨us, q⟩ := h.bag.lists a m
  rw [q, e a _ q nt_lst], t, fun p m => e _ _ (h.fns p m) fun ps z => by cases z⟩
theorem sim_callL {k : Nat} {f : Addr} {fd : FuncData} {ps : List Str} {Φ : Fs} {x p : Str} {xp pos lpos : Pos} {e body : Expr} {params : Arguments} {scope : Scope} {c P : Addr} {N : List Str} {we wb : WE} {j : Nat} (F : FnOk X.prog X.w X.K X.mg X.base (L2.CX X.prog X.w) k f fd ps (spW X.prog X.w X.K X.mg X.base TT kc 2 Φ)) (hps : ps.length = 2) (hT : ZOk X.prog X.w TT Z) (hr : Room k X.A) (tk : Takes X W) (hg : Gl X x)
    (hm : X.mg x = some (.ref f)) (hk : PySem.W.keepIn X.K (.ref f) = true) (hb : Binds X.K fd ps []) (he : SimE X W Z (Clb X.prog X.w X.K X.mg X.base kc Z) ow0 Hb e we)
    (TB : LamX.TabB X.base X.mg c P) (hcode : X.env.code = .ref c) (hmT : (P, X.env.qual ++ "<lambda>") ∈ Z.tabs) (hu : ∀ p ∈ Z.tabs, p.1 = P → p.2 = X.env.qual ++ "<lambda>") (hj : j + 1 ≤ kc) (SN : NdefX.NScope N [p] [] scope) (hdef : defaultsOf params X.env = ([], [])) (hcl : ∀ cells, cloFrom cells scope.names [] = [])
    (hbind : ∀ (qual : Str) (u : Value) (pm cv ctv : Value), bindArgs (PySem.W.kla_fn "<lambda>" qual params body scope [] pm cv ctv) ⟨[u], []⟩ = pure [(p, u)])
    (hbody : ∀ (Z' : Ext) (f' c' : Addr) (A : Around) (outer : List Env) (s : Shared) (H : Hp) (E : XK) (ow : List Addr), ZOk X.prog X.w TT Z' → Room j (A.deeper (NdefX.envF (lamNF (X.env.qual ++ "<lambda>") params scope c') f' s.heap.objs.size)) → Gr Z' ow H →
      SimE (NdefX.ncx (L2.CX X.prog X.w) X.prog X.w X.K X.mg X.base N (lamNF (X.env.qual ++ "<lambda>") params scope c') f' A outer s H E) (fun cls d _ H' => E cls d H') Z' (Clb X.prog X.w X.K X.mg X.base kc Z') ow H body wb)
    (hdb : (x == ("__debug__" : Str)) = false := by decide) (hs : starEach [e, .Lambda params body scope lpos] X.env = (false, eval e X.env) :: starEach [.Lambda params body scope lpos] X.env := by rfl) (hpl : (backTo pos (starEach [.Lambda params body scope lpos] X.env)).any (·.1) = false := by rfl)
    (hs2 : starEach [.Lambda params body scope lpos] X.env = (false, eval (.Lambda params body scope lpos) X.env) :: starEach [] X.env := by rfl) :
    SimE X W Z (Clb X.prog X.w X.K X.mg X.base kc Z) ow0 Hb (.Call (.Name x xp) [e, .Lambda params body scope lpos] [] pos)
      (wCallL Φ (fun d R => wb (start0 N [.d d]) (fun y => match y.kp with
        | some x => R x
        | none => False) fun _ => False) we) := by
  intro S ρ σ H ow R Ex Q r wq g b
  refine ⟨fun pins s I => ?_⟩
  have hfree : ∀ y ∈ scope.names, y.2 = .free → ∃ c, X.env.cells.lookup y.1 = some c := fun y hy z => absurd (SN.free y hy z) (by simp)
  refine wpAny_Call_Name_kw (ld_glob I hg hm ?_ hdb)
  refine PySem.W.callWith_K (h₀ := X.base) I.ok.mod.kin hk ?_ hs hpl
  have hargs : PAat X [e, .Lambda params body scope lpos] σ H fun vs H1 => spW X.prog X.w X.K X.mg X.base TT kc 2 Φ vs H1 Q (L2.WE W σ) := by
    refine PAat.of (pa_cons PEat.pe PAat.pa hs) (he S ρ σ H ow _ _ _ r wq (fun y v H1 p1 e1 z1 h1 => ?_) b)
    refine ⟨fun pos' pins' s1 I1 => ?_⟩
    rw [hs2]
    show wpAny _ _ (spliced ((false, eval (.Lambda params body scope lpos) X.env) :: backTo pos' (starEach [] X.env))) _ _ s1
    refine Calls.spliced_cons (lam_made I1 TB hcode hmT hu z1.tabs hdef hfree fun f' c' H2 s2 I2 eN T2 nf nc hf hc => ?_)
    refine Calls.spliced_nil ⟨[.ref f'], H2, I2, .cons rfl .nil, ?_⟩
    rw [hcl] at hf
    split at p1
    · rename_i a ea
      have zz : RZ Z H2 := z1.extN eN T2
      have e2 : SameBut (fp Z) H1 H2 := extN_same eN
      let l : List (Addr × (Heap → Prop)) := [(f', LamP f' (X.env.qual ++ "<lambda>") params body scope [] c'), (c', CdP c' (X.env.qual ++ "<lambda>"))]
      have zp : RZ (Z.plus l) H2 := zz.plus fun p m => by
        simp only [l, List.mem_cons, List.not_mem_nil, or_false] at m
        rcases m with rfl | rfl
        · exact hf
        · exact hc
      have gr2 := r.gr.step (e1.trans e2) zz
      have h2 : RV (Clb X.prog X.w X.K X.mg X.base kc Z) (Z.plus l) X.K ow H H2 v y := h1.stay e2 r.gr.fpo
      have gp : Gr (Z.plus l) ow H2 := ⟨zp, gr2.fpo, gr2.isS⟩
      have hp : HeldAt (Z.plus l) H2 := (r.step (e1.trans e2) zz).heldAt
      obtain ⟨L, nL, q2, qL⟩ := h2.lent (CL' := fun f φ => ∀ L, Clb X.prog X.w X.K X.mg X.base kc ((Z.plus l).lend L H2) f φ) (fun _ _ c L => c.grow.lend) gp hp ea
      have q1 := RVs.calls (CL' := Clb X.prog X.w X.K X.mg X.base kc ((Z.plus l).lend L H2)) (fun _ _ c => c L) (.cons (qL L fun _ m => m) .nil)
      have callable := Clb.ofLam (P := X.prog) (w := X.w) (K := X.K) (mg := X.mg) (base := X.base) (Z := (Z.plus l).hold fun _ => none) (f := f') (c' := c') (qual := X.env.qual ++ "<lambda>") (we := wb) hj SN (hbind _) (List.mem_append_left _ List.mem_cons_self) (List.mem_append_left _ (List.mem_cons_of_mem _ List.mem_cons_self)) (fun _ _ z => nomatch z)
        fun A outer s H E ow hr gr => hbody ((Z.plus l).hold fun _ => none) f' c' A outer s H E ow ⟨hT.tabs⟩ hr gr
      have tT : ZOk X.prog X.w TT (Z.plus l) := ⟨hT.tabs⟩
      cases q1 with
      | cons q1 _ =>
      refine ⟨rfl, (Z.plus l).lend L H2, ow, tT.lend, hp.lend nL, [a, .fn f' _], _, Ex, gp.lend, .cons q1 (.cons ⟨rfl, callable.hold⟩ .nil), by show (argOk a && (true && true)) = true; rw [q2]; rfl, p1 f', fun y v' H' pz ok e3 z3 h3 => ?_, fun x cls d H' ex er s3 z3 => ?_⟩
      · have h4 : RV (Clb X.prog X.w X.K X.mg X.base kc Z) Z X.K ow H2 H' v' y := (h3.unlend ok : RV (Clb X.prog X.w X.K X.mg X.base kc Z) (Z.plus l) X.K ow H2 H' v' y)
        exact g y v' H' pz.2 ((e1.trans e2).trans e3) z3.unlend.minus (h4.back (e1.trans e2) r.gr.fpo)
      · exact b x cls d H' ex er ((e1.trans e2).trans s3) z3.unlend.minus
    · exact p1.elim
  refine thn (hargs.go pos pins s I) fun us s1 ⟨vs, H1, I1, rv, q⟩ => ⟨I1.kIn, ?_⟩
  have hl : us.length = ps.length := by rw [← rv.length, hps]; exact q.1
  have b' := hb s1 us I1.kIn (by rw [List.append_nil]; exact hl)
  rw [List.append_nil] at b'
  refine wpAny_call (codeAny_mono (F.run X.A X.stack s1 H1 ⟨us, []⟩ us vs Q (L2.WE W σ) hr I1.env0 b' rv q) fun r s' hq => ?_)
  cases r with
  | error e => exact passAt tk σ pins H1 s1 e s' I1 hq
  | ok fl =>
    cases fl with
    | ret u => exact I1.after hq
    | next => exact False.elim hq
    | brk => exact False.elim hq
    | cont => exact False.elim hq
end
end Pd

/-! Pd13: the law's bag. -/
namespace Pd
open PySem PySem.Spec PyProof.Rows L2
/-- what lies at the bag's place k -/
def bagOk (k z : Int) : Prop := 0 ≤ z ∧ (k = 1 → z < 2147483648)
section
variable {X : Cx} {W : WX} {Z : Ext} {CL : Calls} {ow0 : List Addr} {Hb : Hp}
theorem RZ.bagAt {H : Hp} (h : RZ Z H) {b c : Addr} (e : Z.bag = some (b, c)) : BagAt H b c := by
  have q := h.bag
  rw [e] at q
  exact q
theorem RZ.bagPut {H : Hp} {b c : Addr} {us vs : List V} (h : RZ Z H) (e : Z.bag = some (b, c)) (hb : H b = some (.lst us)) (n : BagAt (L2.upd H b (.lst vs)) b c) : RZ Z (L2.upd H b (.lst vs)) := by
  refine ⟨by rw [e]; exact n, fun t ht => ?_, fun p m => ?_⟩
  · obtain ⟨ps, h1, h2, h3⟩ := h.tabs t ht
    refine ⟨ps, (upd_ne (ne_of h1 hb (by intro z; cases z))).trans h1, h2, fun pos cv hc => ?_⟩
    obtain ⟨d, e1, e2⟩ := h3 pos cv hc
    exact ⟨d, e1, (upd_ne (ne_of e2 hb (by intro z; unfold LamX.CodeO at z; cases z))).trans e2⟩
  · exact (upd_ne (ne_of (h.fns p m) hb (by intro z; cases z))).trans (h.fns p m)
theorem same_in {fp : List Addr} {H : Hp} {b : Addr} {o : HO} (m : b ∈ fp) : SameBut fp H (upd H b o) := fun a u n _ q => by
  have ne : a ≠ b := fun e => n (by rw [e]; exact m)
  rw [upd_ne ne]
  exact q
theorem bag_fp {b c : Addr} (e : Z.bag = some (b, c)) : b ∈ fp Z := by
  unfold fp
  rw [e]
  exact List.mem_cons_self
theorem Rel.bag {S : Hp} {ρ : Ev} {σ : L2.St} {H : Hp} {ow : List Addr} {i : Nat} (r : Rel CL Z X.K ow0 Hb S ρ σ H ow) (h : ρ[i]? = some (some .bag)) : ∃ b c, σ[i]? = some (some (.ref b)) ∧ Z.bag = some (b, c) ∧ BagAt H b c := by
  obtain ⟨v, h1, b, c, e, rfl⟩ := r.val i _ h
  exact ⟨b, c, h1, e, r.gr.ext.bagAt e⟩
/-- bag[k] -/
def wBag (i : Nat) (k : Int) : WE := fun ρ P _ => ρ[i]? = some (some .bag) ∧ ∀ z, bagOk k z → P (.d (.int z))
theorem bag_at {H : Hp} {b c : Addr} {k : Int} (h : BagAt H b c) (hk : k = 0 ∨ k = 1 ∨ k = 2) : ∃ z us, H b = some (.lst us) ∧ atI us k = some (.int z) ∧ bagOk k z := by
  obtain ⟨b0, b1, b2, cs, h1, h2, g0, g1, g1', g2, _⟩ := h
  rcases hk with rfl | rfl | rfl
  · exact ⟨b0, _, h1, rfl, g0, fun z => by cases z⟩
  · exact ⟨b1, _, h1, rfl, g1, fun _ => g1'⟩
  · exact ⟨b2, _, h1, rfl, g2, fun z => by cases z⟩
theorem sim_bag (i : Nat) {k : Int} {x : Str} {xp ip pos : Pos} {j : Nat} (hk : k = 0 ∨ k = 1 ∨ k = 2) (hN : X.N[i]? = some x := by rfl) (hv : Vis X.env.scope x := by first | exact Or.inl rfl | exact Or.inr (Or.inl rfl) | exact Or.inr (Or.inr rfl))
    (hd : (x == ("__debug__" : Str)) = false := by decide) (hcd : (x == ("__classdict__" : Str)) = false := by decide) (hs : PlainIx (.Constant (.int k) j ip) := by intro _ _; rfl) : SimE X W Z CL ow0 Hb (.Subscript (.Name x xp) (.Constant (.int k) j ip) pos) (wBag i k) := by
  intro S ρ σ H ow P Ex Q r w g bd
  obtain ⟨b, c, h1, e, ha⟩ := r.bag w.1
  obtain ⟨z, us, h2, h3, h4⟩ := bag_at ha hk
  exact PEat.of (pe_ix ix_list (pe_var hN hv hd hcd) pe_int hs) ⟨.ref b, h1, b, us, k, .int z, rfl, rfl, .inl (.of h2), h3, g.sc (w.2 z h4) r.gr.ext fun _ => .int z⟩
/-- written -/
theorem bag_set {H : Hp} {b c : Addr} {k z : Int} (h : BagAt H b c) (hk : k = 0 ∨ k = 1 ∨ k = 2) (hz : bagOk k z) : ∃ us j, H b = some (.lst us) ∧ ixN us.length k = some j ∧ BagAt (upd H b (.lst (us.set j (.int z)))) b c := by
  obtain ⟨b0, b1, b2, cs, h1, h2, g0, g1, g1', g2, g3, gl, ne⟩ := h
  have h2' : ∀ o, upd H b o c = some (.lst (cs.map V.int)) := fun o => by rw [upd_ne (Ne.symm ne)]; exact h2
  rcases hk with rfl | rfl | rfl
  · exact ⟨_, 0, h1, rfl, z, b1, b2, cs, upd_same, h2' _, hz.1, g1, g1', g2, g3, gl, ne⟩
  · exact ⟨_, 1, h1, rfl, b0, z, b2, cs, upd_same, h2' _, g0, hz.1, hz.2 rfl, g2, g3, gl, ne⟩
  · exact ⟨_, 2, h1, rfl, b0, b1, z, cs, upd_same, h2' _, g0, g1, g1', hz.1, g3, gl, ne⟩
def wBagSet (i : Nat) (k : Int) (w : WE) : WS := fun E ρ => ρ[i]? = some (some .bag) ∧ w ρ (fun y => match y with
  | .d (.int z) => bagOk k z ∧ E.nx ρ
  | _ => False) (fun x => E.ex x ρ)
theorem sim_bagset (i : Nat) {k : Int} {x : Str} {xp ip tp pos : Pos} {j : Nat} {e : Expr} {we : WE} (hk : k = 0 ∨ k = 1 ∨ k = 2) (h : SimE X W Z CL ow0 Hb e we) (hN : X.N[i]? = some x := by rfl) (hv : Vis X.env.scope x := by first | exact Or.inl rfl | exact Or.inr (Or.inl rfl) | exact Or.inr (Or.inr rfl))
    (hd : (x == ("__debug__" : Str)) = false := by decide) (hcd : (x == ("__classdict__" : Str)) = false := by decide)
    (hs : swapsWithSole [.Subscript (.Name x xp) (.Constant (.int k) j ip) tp] e pos.line X.env = pure false := by rfl) (hw : swappedStores [.Subscript (.Name x xp) (.Constant (.int k) j ip) tp] e X.env = pure none := by rfl) :
    SimS X W Z CL ow0 Hb (.Assign [.Subscript (.Name x xp) (.Constant (.int k) j ip) tp] e pos) (wBagSet i k we) := by
  intro S ρ σ H ow E D r w o
  refine PSat.of (ps_asg PEat.pe (pg_sub (pe_var hN hv hd hcd) pe_int set_list) hs hw) ?_
  refine h S ρ σ H ow _ _ _ r w.2 (fun y v H1 p1 e1 z1 h1 => ?_) (o.bd r)
  have r1 := r.step e1 z1
  obtain ⟨b, c, s1, eb, ha⟩ := r1.bag w.1
  split at p1
  · rename_i z
    cases (h1 : Dt X.K (hid ow H1) v (.int z))
    obtain ⟨us, jj, h2, h3, h4⟩ := bag_set ha hk p1.1
    exact ⟨.ref b, s1, b, us, k, jj, rfl, rfl, h2, h3, o.nx ρ σ _ ow p1.2 (r1.step (same_in (bag_fp eb)) (z1.bagPut eb h2 h4))⟩
  · exact p1.elim
/-- getItem of a list, an index within -/
theorem get_list : PGet X (fun o i H Q => ∃ p us k y, o = .ref p ∧ i = .int k ∧ 0 ≤ k ∧ H p = some (.lst us) ∧ us[k.toNat]? = some y ∧ Q y H) := by
  intro pins s σ H o i ov iv Q I ro ri h
  obtain ⟨p, us, k, y, rfl, rfl, h0, hp, hy, q⟩ := h
  cases ro
  obtain ⟨t, rfl⟩ := ri
  obtain ⟨its, rv, pl, hz⟩ := I.list (.inl (.of hp))
  obtain ⟨u, eu, ru⟩ := rv.get hy
  have hl := rv.length
  have hlt : k.toNat < us.length := (List.getElem?_eq_some_iff.mp hy).1
  have hn := line63
  exact wpAny_getItem_list pl.isList h0 (by omega) (by simpa using eu) ⟨y, H, I, ru, q⟩
def wBagAdd (i : Nat) (n : Int) : WS := fun E ρ => ρ[i]? = some (some .bag) ∧ 0 ≤ n ∧ E.nx ρ
theorem sim_bagadd (i : Nat) {n : Int} {x : Str} {xp ip tp np pos : Pos} {j jn : Nat} (hN : X.N[i]? = some x := by rfl) (hv : Vis X.env.scope x := by first | exact Or.inl rfl | exact Or.inr (Or.inl rfl) | exact Or.inr (Or.inr rfl))
    (hd : (x == ("__debug__" : Str)) = false := by decide) (hcd : (x == ("__classdict__" : Str)) = false := by decide) :
    SimS X W Z CL ow0 Hb (.AugAssign (.Subscript (.Name x xp) (.Constant (.int 2) j ip) tp) .Add (.Constant (.int n) jn np) pos) (wBagAdd i n) := by
  intro S ρ σ H ow E D r w o
  obtain ⟨b, c, s1, eb, ha⟩ := r.bag w.1
  obtain ⟨b0, b1, b2, cs, h1, h2, g0, g1, g1', g2, g3, gl, ne⟩ := id ha
  obtain ⟨us, jj, q1, q2, q3⟩ := bag_set (k := 2) (z := b2 + n) ha (.inr (.inr rfl)) ⟨by have := w.2.1; omega, fun z => by cases z⟩
  refine PSat.of (ps_augS (pe_var hN hv hd hcd) pe_int get_list pe_int ip_add set_list) ?_
  exact ⟨.ref b, s1, b, _, 2, .int b2, rfl, rfl, by decide, h1, rfl, b2, n, rfl, rfl, b, us, 2, jj, rfl, rfl, q1, q2, o.nx ρ σ _ ow w.2.2 (r.step (same_in (bag_fp eb)) (r.gr.ext.bagPut eb q1 q3))⟩
/-- (bag[3][bag[2]:] + [0])[0] -/
def wBagCell (i : Nat) : WE := fun ρ P _ => ρ[i]? = some (some .bag) ∧ ∀ z, 0 ≤ z → P (.d (.int z))
theorem sim_bagcell (i : Nat) {x : Str} {xp xp2 ip ip2 p1 p2 p3 p4 p5 p6 p7 p8 p9 : Pos} {j j2 j3 j4 : Nat} (hN : X.N[i]? = some x := by rfl) (hv : Vis X.env.scope x := by first | exact Or.inl rfl | exact Or.inr (Or.inl rfl) | exact Or.inr (Or.inr rfl))
    (hd : (x == ("__debug__" : Str)) = false := by decide) (hcd : (x == ("__classdict__" : Str)) = false := by decide) :
    SimE X W Z CL ow0 Hb (.Subscript (.BinOp (.Subscript (.Subscript (.Name x xp) (.Constant (.int 3) j ip) p1) (.Slice (some (.Subscript (.Name x xp2) (.Constant (.int 2) j2 ip2) p2)) none none p3) p4) .Add (.List [.Constant (.int 0) j3 p5] p6) p7) (.Constant (.int 0) j4 p8) p9) (wBagCell i) := by
  intro S ρ σ H ow P Ex Q r w g bd
  obtain ⟨b, c, s1, eb, b0, b1, b2, cs, h1, h2, g0, g1, g1', g2, g3, gl, ne⟩ := r.bag w.1
  refine ⟨fun pins s I => ?_⟩
  have hlen : cs.length ≤ sizeLine := by
    obtain ⟨z, _⟩ := I.hok c _ h2
    rw [List.length_map] at z
    exact z
  refine (pe_ix ix_list (pe_op op_cat (pe_slice sl_list (pe_ix ix_list (pe_var hN hv hd hcd) pe_int (by intro _ _; rfl)) (po_some (pe_ix ix_list (pe_var hN hv hd hcd) pe_int (by intro _ _; rfl))) po_none) (pe_lst (pa_cons pe_int pa_nil))) pe_int (by intro _ _; rfl)).run pins s σ H Q I ?_
  refine ⟨.ref b, s1, b, _, 3, .ref c, rfl, rfl, .inl (.of h1), rfl, .ref b, s1, b, _, 2, .int b2, rfl, rfl, .inl (.of h1), rfl, b2, rfl, c, _, rfl, .inl (.of h2), fun p hp => ?_⟩
  refine ⟨by show 1 ≤ sizeLine; rw [sizeLine_eq]; omega, fun q hq => ?_⟩
  have npq : p ≠ q := fun e => by rw [e, upd_same] at hq; cases hq
  have nq : H q = none := by
    rw [upd_ne (Ne.symm npq)] at hq
    exact hq
  have n1 := Le.new (o := .lst (cutV (cs.map V.int) (some b2) none)) hp
  have n2 := Le.new (o := .lst [V.int 0]) hq
  -- the cut list's items are cells
  obtain ⟨ds, hds, hpos⟩ : ∃ ds : List Int, cutV (cs.map V.int) (some b2) none = ds.map V.int ∧ ∀ d ∈ ds, 0 ≤ d := by
    refine ⟨cutG cs (some b2) none, ?_, fun d m => g3 d ?_⟩
    · unfold cutV cutG
      rw [List.length_map, ← List.map_drop, ← List.map_take]
    · unfold cutG at m
      exact List.mem_of_mem_drop (List.mem_of_mem_take m)
  refine ⟨p, q, _, [V.int 0], rfl, rfl, (upd_ne npq).trans upd_same, upd_same, ?_, fun t ht => ?_⟩
  · have hl : ds.length ≤ cs.length := by
      have e := congrArg List.length hds
      unfold cutV at e
      simp only [List.length_map, List.length_take, List.length_drop] at e
      omega
    rw [hds, List.length_map]
    show ds.length + 1 ≤ sizeLine
    rw [sizeLine_eq]
    omega
  · obtain ⟨z, hz, h0⟩ : ∃ z : Int, (ds.map V.int ++ [V.int 0])[0]? = some (V.int z) ∧ 0 ≤ z := by
      cases ds with
      | nil => exact ⟨0, rfl, Int.le_refl 0⟩
      | cons d r => exact ⟨d, rfl, hpos d List.mem_cons_self⟩
    have le : Le H (upd (upd (upd H p (.lst (cutV (cs.map V.int) (some b2) none))) q (.lst [V.int 0])) t (.lst (cutV (cs.map V.int) (some b2) none ++ [V.int 0]))) := (n1.trans n2).trans (Le.new ht)
    refine ⟨t, _, 0, .int z, rfl, rfl, .inl (.of upd_same), ?_, g.dat (w.2 z h0) le r.gr.ext (.int z)⟩
    rw [hds]
    unfold L2.atI ixN
    rw [if_pos (Int.le_refl 0), if_pos (by rw [List.length_append]; show (0 : Int) < ((ds.map V.int).length + 1 : Nat); omega)]
    exact hz
end
end Pd

/-! Pd14: powers; sorted(set(..)) of a list of ints. -/
namespace Pd
open PySem PySem.Spec PyProof.Rows L2
section
variable {X : Cx} {W : WX} {Z : Ext} {CL : Calls} {ow0 : List Addr} {Hb : Hp}
def opPow : Op2 := fun a b P => match a.rd, b.rd with
  | some (.int i), some (.int j) => CPow i j ∧ P (.d (.int (i ^ j.toNat)))
  | _, _ => False
theorem or_pow : OpR X (binaryOp .Pow) (rD CL Z X.K opPow) := by
  intro pins s σ H x y v u Q I rx ry hyp
  obtain ⟨ow, H0, a, b, P, gr, ha, hb, w, g⟩ := hyp
  unfold opPow at w
  split at w
  · rename_i i j e1 e2
    rw [ha.int e1] at rx
    rw [hb.int e2] at ry
    exact op_pow pins s σ H _ _ v u Q I rx ry ⟨i, j, rfl, rfl, w.1, g.sc w.2 gr.ext fun _ => .int _⟩
  · exact w.elim
end
section
variable {P : Program} {w : World} {A : Around} {E : Value → Shared → Prop} {s : Shared}
/-- the object of a set that is just begun -/
def bornSet (w : World) : Obj := { cls := .type "set", dict := none, data := .set #[] 0 (.fresh 0 0 (!w.params.followText "set-order")) }
set_option maxHeartbeats 3200000 in
/-- set(xs), a list of ints: its members, their count, the order told -/
theorem set_of_list {l : Addr} {items : Array Value} (ns : List Int) {Q : Value → Shared → Prop} (quiet : A.handled = none) (isL : s.heap.IsList l items) (areInts : IntsAre items.toList ns) (few : ns.length + 1 < scanBound)
    (fin : ∀ (h' : Heap) (tk c : Nat), SetR w h' s.heap.objs.size (fun j => decide (j ∈ ns)) c → c ≤ ns.length → (∀ b o, s.heap.get? b = some o → h'.get? b = some o) → Q (.ref s.heap.objs.size) { s with heap := h', toks := tk }) :
    wpAny (model P w) A (call (.type "set") [.ref l]) Q E s := by
  have size : items.size = ns.length := (Array.length_toList (xs := items)).symm.trans (IntsAre.length areInts)
  obtain ⟨cc, tl, mro⟩ := F.called_set.mro
  have madeSet := F.called_set.made; have subSet := F.called_set.sub
  refine wpAny_call (codeAny_of_tree ?_)
  show wpAny _ _ (callAny (.type "set") ⟨[.ref l], []⟩) _ _ _
  refine wpAny_pure ⟨Code.quiet_builtin _ (by decide +kernel), codeAny_builtin F.entry_type_call ?_⟩
  rw [Around.under_plain (weight_type_call_type "set" [.ref l] []) rfl]
  have noType := F.called_set.notType; have creates := F.called_set.canCreate; have typeCalled := F.typeCall_set_1 (.ref l)
  repeat (any_goals (first | assumption | wp_step))

  refine codeAny_mono (code_set_led1 (.ref l) (E := E) (Q₁ := fun obj s₁ => obj = .ref s.heap.objs.size ∧ s₁ = { s with heap := s.heap.push (bornSet w) }) ⟨rfl, rfl⟩) fun r s₁ hr => ?_
  cases r with
  | error e => exact hr
  | ok fl =>
    cases fl with
    | ret obj =>
      obtain ⟨rfl, rfl⟩ := hr
      have born : (s.heap.push (bornSet w)).get? s.heap.objs.size = some (bornSet w) := Heap.get?_push_size _ rfl
      have isSet : Shared.TypeIs { s with heap := s.heap.push (bornSet w) } (.ref s.heap.objs.size) "set" := ⟨_, born, rfl⟩
      have initAt := F.called_set.init.lookup; have initBind := F.called_set.init.bind (.ref s.heap.objs.size)
      repeat (any_goals (first | assumption | wp_step))

      refine codeAny_mono (codeAny_call_builtin (R := wants (fun r s₂ => r = .none ∧ ∃ h' tk c, s₂ = { s with heap := h', toks := tk } ∧ SetR w h' s.heap.objs.size (fun j => decide (j ∈ ns)) c ∧ c ≤ ns.length ∧ (∀ b o, s.heap.get? b = some o → h'.get? b = some o)) E) F.called_set.init.plain F.entry_set_init (check_set_init_1 isSet ?_)) fun r₂ s₂ hr₂ => ?_
      · obtain ⟨⟨oc, od, oda, osl⟩, at_, clsL, cnt, dataL⟩ := isL
        simp only at clsL dataL
        subst clsL; subst dataL
        have at1 : (s.heap.push (bornSet w)).get? l = some { cls := .type "list", dict := od, data := .seq items cnt, slots := osl } := Heap.get?_push_of_some _ at_
        have noSet := F.sub_list_set; have noFrozen := F.sub_list_frozenset
        have noDict : (Value.type "list" == Value.type "dict") = false := by decide
        have list1 : (s.heap.push (bornSet w)).IsList l items := ⟨_, at1, rfl, cnt, rfl⟩
        unfold Builtin.«set.__init__» noKeywords Builtin.Frozenset.updateFrom
        generalize walker : pyIter = PI
        wp_walk
        subst walker

        refine wpAny_pyIter_list list1 (wpAny_bind (wpAny_runValue ?_))
        have below : l < s.heap.objs.size := Heap.lt_size at_
        have calm3 : A.in1.in1.in1.handled = none := by simp [quiet]
        have grown : (s.heap.push (bornSet w)).objs.size = s.heap.objs.size + 1 := Heap.size_push ..
        have apart : l ≠ (s.heap.push (bornSet w)).objs.size := by rw [grown]; exact Nat.ne_of_lt (Nat.lt_succ_of_lt below)
        have off : s.heap.objs.size ∉ [(s.heap.push (bornSet w)).objs.size, l] := by
          rw [grown]
          simp only [List.mem_cons, List.not_mem_nil, or_false, not_or]
          exact ⟨Nat.ne_of_lt (Nat.lt_succ_self _), Nat.ne_of_gt below⟩
        have each : ∀ (i : Nat) (v : Value), items[i]? = some v → ∃ k t, ns[i]? = some k ∧ v = .int k t := fun i v hv => by
          have within : i < ns.length := by rw [← size]; exact (Array.getElem?_eq_some_iff.mp hv).1
          obtain ⟨t, e⟩ := PyProof.Rows.IntsAre.int_at areInts i v (by rw [Array.getElem?_toList]; exact hv)
          refine ⟨ns[i], t, List.getElem?_eq_getElem within, ?_⟩
          rw [e, List.getD_eq_getElem?_getD, List.getElem?_eq_getElem within] <;> rfl
        refine set_update_ints ((Walks.list calm3 _ l apart items).toS) s.heap.objs.size off ns size few each (items.size - 0) 0 _ (by omega) (Nat.zero_le _) ⟨⟨_, Heap.get?_push_size _ rfl, rfl, rfl⟩, (list1.push _)⟩ ?begun ?ended
        case begun => exact ⟨0, Nat.le_refl 0, setR_new_at (Heap.get?_push_of_some _ born)⟩
        case ended =>
          intro s' c' moved many isNow
          obtain ⟨h', g2, d', tk', os'⟩ := s'
          have eg : g2 = s.gens := moved.gens
          have ed : d' = s.drawn := moved.drawn
          have eo : os' = s.os := moved.os
          subst eg; subst ed; subst eo
          show wpAny _ _ _ _ _ _
          refine wpAny_pure ?_
          show wpAny _ _ (ret Value.none) _ _ _
          refine wpAny_pure ⟨rfl, h', tk', c', rfl, isNow, by rw [← size]; exact many, fun b o e => ?_⟩
          have old : b < s.heap.objs.size := Heap.lt_size e
          refine moved.heap b o ?_ (Heap.get?_push_of_some _ (Heap.get?_push_of_some _ e))
          simp only [List.mem_cons, List.not_mem_nil, or_false, not_or, grown]
          exact ⟨Nat.ne_of_lt old, Nat.ne_of_lt (Nat.lt_succ_of_lt old)⟩
      · rcases r₂ with e | fl₂
        · exact hr₂
        · cases fl₂ with
          | ret r =>
            obtain ⟨rfl, h', tk, c', rfl, isNow, many, kept⟩ := hr₂
            repeat (any_goals (first | assumption | wp_step))
            exact fin _ _ _ isNow many kept
          | _ => exact hr₂.elim
    | _ => exact hr.elim
end

section
variable {X : Cx} {W : WX} {Z : Ext} {CL : Calls} {ow0 : List Addr} {Hb : Hp}
/-- sorted(set(e)), ints -/
def wSortedSet (w : WE) : WE := fun ρ P Ex => w ρ (fun y => match y.rd with
  | some (.list xs) => match intsOf xs with
    | some ns => ns.length < 64 ∧ ∀ out : List Int, out.Pairwise (· < ·) → (∀ k, k ∈ out ↔ k ∈ ns) → P (.own (out.map .int))
    | none => False
  | _ => False) Ex
theorem sim_sortedSet {e : Expr} {we : WE} {p p2 q pos : Pos} (hc : X.calm = true) (h : SimE X W Z CL ow0 Hb e we) (hg : Gl X "sorted") (hm : X.mg "sorted" = none) (hg2 : Gl X "set") (hm2 : X.mg "set" = none)
    (na : starEach [e] X.env = (false, eval e X.env) :: starEach [] X.env := by rfl) : SimE X W Z CL ow0 Hb (.Call (.Name "sorted" p) [.Call (.Name "set" p2) [e] [] q] [] pos) (wSortedSet we) := by
  intro S ρ σ H ow P Ex Q r w g bd
  refine ⟨fun pins s I => ?_⟩
  refine Call_ (ld_blt I hg hm PyProof.Rows.boot_sorted (PyProof.Rows.callWith_builtin1 (PyProof.Rows.args_cons ?_ rfl) rfl rfl))
  refine Call_ (ld_blt I hg2 hm2 PyProof.Rows.boot_set (PyProof.Rows.callWith_type1 (PyProof.Rows.args_cons (thn (h S ρ σ H ow _ Ex (fun v H1 => ∃ y, SameBut (fp Z) H H1 ∧ RZ Z H1 ∧ RV CL Z X.K ow H H1 v y ∧ _) r w (fun y v H1 p1 e1 z1 h1 => ⟨y, e1, z1, h1, p1⟩) bd |>.go pins s I) fun u s1 hh => PyProof.Rows.args_nil ?_) na) na rfl))
  obtain ⟨v, H1, I1, rv, y, e1, z1, h1, p1⟩ := hh
  split at p1
  · rename_i xs ex
    split at p1
    · rename_i ns en
      obtain ⟨a, vs, rfl, hp, ha⟩ := h1.list ex
      rw [intsOf_eq en] at ha
      rw [ha.ints] at hp
      cases rv
      obtain ⟨its, r1, pl, hz⟩ := I1.list (.inl (.of hp))
      refine set_of_list (P := X.prog) (w := X.w) ns (I1.ok.hd hc) pl.isList (by simpa using ints_of_vals r1) (by unfold scanBound; omega) fun h' tk c R many kept => PyProof.Rows.args_nil ?_
      have I2 : Inv X pins σ H1 { s1 with heap := h', toks := tk } := I1.kept kept
      refine sorted_set R (I2.ok.hd hc) (by omega) fun s' l out cnt out' kept2 gens os fresh at_ isI up mem len => ?_
      have hn : H1 l = none := I2.hok.fresh fresh
      have le : (out'.map V.int).length ≤ sizeLine := by rw [List.length_map, len, sizeLine_eq]; omega
      have J : Inv X pins σ (upd H1 l (.lst (out'.map V.int))) { ({ s1 with heap := h', toks := tk } : Shared) with heap := s'.heap, gens := s'.gens, drawn := s'.drawn, toks := s'.toks } :=
        I2.call (s := { s1 with heap := h', toks := tk }) (ch := []) (Un.laid kept2 fresh hn) (I2.hok.laid kept2 fresh ⟨le, out.toList, cnt, vals_of_ints isI, at_⟩) (by rw [gens]; exact I2.bare) (fun _ z => nomatch z)
      have same : s' = { s1 with heap := s'.heap, gens := s'.gens, drawn := s'.drawn, toks := s'.toks } := by
        obtain ⟨h1, h2, h3, h4, h5⟩ := s'
        cases os
        rfl
      rw [same]
      refine ⟨.ref l, _, J, rfl, (g.step e1 r.gr.fpo).lst (p1.2 out' up fun k => by rw [mem k, decide_eq_true_eq]) (r.gr.step e1 z1) hn (DtAll.ofInts out')⟩
    · exact p1.elim
  · exact p1.elim
end
end Pd

/-! Pd15: heard(lambda: ..), a def that calls what it got and tells whether an error came. -/
namespace Pd
open PySem PySem.Spec PyProof.Rows L2
/-- try: return (told, act()) except e: return (nothing,) -/
def THeard (K : PySem.W.Frag) (CS : Addr) (told nothing : Str) : (XK → Hp → VK → Prop) → Hp → VK → Prop := fun tl H Q =>
  tl (fun cls _ H' => ∃ b, PySem.W.exmOne K cls (.ref CS) = some b ∧ (b = true → ∀ p, H' p = none → Q (.ref p) (upd H' p (.tup [.str nothing]))) ∧ (b = false → False)) H
    fun v H' => [V.str told, v].length ≤ sizeLine ∧ ∀ p, H' p = none → Q (.ref p) (upd H' p (.tup [.str told, v]))
theorem heard_gives {X : Cx} {Ng : List Str} {x a e q told nothing : Str} {sg : Scope} {g CS : Addr} {cdg : Value} {j j2 k1 k2 : Nat} {p1 p2 p3 p4 p5 p6 p7 p8 p9 p10 p11 : Pos} (hge : sg.names.lookup e = some .globalImplicit) (hme : X.mg e = some (.ref CS)) (hde : (e == ("__debug__" : Str)) = false) (h0 : ∀ f : Addr, (L2.start Ng [V.ref f])[0]? = some (some (V.ref f))) :
    LamX.GivesTo X Ng x sg g cdg [.Try [.Return (some (.Tuple [.Constant (.str told) j p9, .Call (.Name a p1) [] [] p2] k1 p10)) p3] [.ExceptHandler (some (.Name e p4)) none [.Return (some (.Tuple [.Constant (.str nothing) j2 p5] k2 p11)) p6] p7] [] [] p8] a q (THeard X.K CS told nothing) := by
  intro f c' s H Q tl act hc hyp
  have global : Gl (cxOf C8.CX0 X.prog X.w X.K X.mg X.base Ng x sg g cdg X.A X.stack s H C8.E0).nox e := hge
  refine ⟨_, pss_one (ps_try_only (X := (cxOf C8.CX0 X.prog X.w X.K X.mg X.base Ng x sg g cdg X.A X.stack s H C8.E0).nox) (c := .ref CS)
      (tb := fun W D σ H => ∃ Ech : XK, (∀ cls d σ' H', Ech cls d H' → W cls d σ' H') ∧ σ[0]? = some (some (.ref f)) ∧ H c' = some (LamX.CodeO c' q) ∧ tl Ech H fun v H' => [V.str told, v].length ≤ sizeLine ∧ ∀ p, H' p = none → D.rt (.ref p) (upd H' p (.tup [.str told, v])))
      rfl rfl ⟨global, hde, .inl hme⟩ LamX.takes0 (fun W pn xe tk _ => ?_) (fun a oe cls d pn _ _ => pss_one (ps_ret (pe_tup (pa_cons pe_str pa_nil))))), ?_⟩
  · refine ⟨fun pins s' σ H' D I ⟨Ech, hW, at0, code, run⟩ => ?_⟩
    exact (pss_one (ps_ret (pos := p3) (pe_tup (pa_cons pe_str (pa_cons (act W pn xe Ech p1 p2 tk hW) pa_nil))))).run pins s' σ H' D I ⟨at0, code, run⟩
  · refine ⟨fun cls _ H' => ∃ b, PySem.W.exmOne X.K cls (.ref CS) = some b ∧ (b = true → ∀ p, H' p = none → Q (.ref p) (upd H' p (.tup [.str nothing]))) ∧ (b = false → False), fun cls d σ' H' ⟨b, e1, e2, e3⟩ => ⟨b, e1, fun hb a _ => ⟨by show 1 ≤ sizeLine; rw [sizeLine_eq]; omega, fun p hp => e2 hb p hp⟩, fun hb => e3 hb⟩, h0 f, hc, hyp⟩

section
variable {X : Cx} {W : WX} {Z : Ext} {CL : Calls} {ow0 : List Addr} {Hb : Hp}
/-- what holds in every call of a lambda that X makes -/
def InLam (X : Cx) (scope : Scope) (k : Nat) (p : Cx → XK → Prop) : Prop := ∀ (A : Around) (outer : List Env) (s : Shared) (H : Hp) (E : XK) (f c' : Addr), Room k (A.deeper (LamX.lamEnv X scope s.heap.objs.size f c')) → p (LamX.lamCx X A outer s H E scope f c') E
def wHeard (told nothing : Str) (caught : List Str) (we : WE) : WE := fun ρ P _ => we ρ (fun y => match y.kp with
  | some d => P (.d (.tuple [.str told, d]))
  | none => False) fun x => x.cls ∈ caught ∧ P (.d (.tuple [.str nothing]))
theorem sim_heard {x a told nothing : Str} {g c P CS : Addr} {k : Nat} {st : Stmt} {fd : FuncData} {Ng : List Str} {caught : List Str} {params : Arguments} {body : Expr} {scope : Scope} {we : WE} {p lpos pos : Pos} (F : Fun X.K x x st g fd) (hg : Gl X x) (hm : X.mg x = some (.ref g)) (hb : L2.Binds X.K fd [a] []) (SG : FnScope Ng [a] (defScope st)) (hNg : Ng[0]? = some a) (hva : Vis (defScope st) a)
    (hG : ∀ (cdg : Value) (q : Str), LamX.GivesTo X Ng x (defScope st) g cdg (defBody st) a q (THeard X.K CS told nothing)) (hcaught : ∀ e ∈ caught, ∀ C, X.mg e = some (.ref C) → PySem.W.exmOne X.K (.ref C) (.ref CS) = some true)
    (TB : LamX.TabB X.base X.mg c P) (hcode : X.env.code = .ref c) (hmT : (P, X.env.qual ++ "<lambda>") ∈ Z.tabs) (hu : ∀ p ∈ Z.tabs, p.1 = P → p.2 = X.env.qual ++ "<lambda>") (hr : Room (k + 2) X.A) (L : LamX.LamS X.env.scope scope) (hdef : defaultsOf params X.env = ([], []))
    (hbind : ∀ (q : Str) (cl : List (Str × Addr)) (pm cv ctv : Value), bindArgs (PySem.W.kla_fn "<lambda>" q params body scope cl pm cv ctv) ⟨[], []⟩ = pure [])
    (hbody : InLam X scope k fun Y E => SimE Y (fun cls d _ H' => E cls d H') Z CL ow0 Hb body we)
    (hdb : (x == ("__debug__" : Str)) = false := by decide) (hd : (a == ("__debug__" : Str)) = false := by decide) (hcd : (a == ("__classdict__" : Str)) = false := by decide) :
    SimE X W Z CL ow0 Hb (.Call (.Name x p) [.Lambda params body scope lpos] [] pos) (wHeard told nothing caught we) := by
  intro S ρ σ H ow R Ex Q r w gd bd
  obtain ⟨oc, od, kV, doc, pm, an, cdv, ct, osl, rfl, lk, hcd'⟩ := F.ex
  refine PEat.of (LamX.pe_lamcall (t := fun E σ H Q => InLam X scope k fun Y E' => E' = E → PEat Y body σ H Q) hg hm F.kp lk hcd' hb SG hNg hva (hG cdv _) TB hcode hmT hu hr L hdef hbind (fun A outer s H E f c' hr' => ⟨fun pins s' σ H Q I h => (h A outer s _ E f c' hr' rfl).go pins s' I⟩) hdb hd hcd) ?_
  refine ⟨r.gr.ext.tabs, fun H1 eN T1 => ?_⟩
  have e1 : SameBut (fp Z) H H1 := extN_same eN
  have z1 : RZ Z H1 := r.gr.ext.extN eN T1
  have r1 := r.step e1 z1
  have g1 := gd.step e1 r.gr.fpo
  intro A outer s0 H0 E f c' hr' hE
  subst hE
  refine hbody A outer s0 H0 _ f c' hr' S ρ σ H1 ow _ _ _ r1 w (fun y v H2 p2 e2 z2 h2 => ?_) (fun ex cls d H2 p2 er e2 z2 => ?_)
  · split at p2
    · rename_i d ed
      exact ⟨by show 2 ≤ sizeLine; rw [sizeLine_eq]; omega, fun q hq => (g1.step e2 r.gr.fpo).tup p2 (r1.gr.step e2 z2) hq (.cons (.str _) (.cons (h2.kp ed) .nil))⟩
    · exact p2.elim
  · obtain ⟨C, hC, rfl⟩ := er.1
    exact ⟨true, hcaught ex.cls p2.1 C hC, fun _ q hq => (g1.step e2 r.gr.fpo).tup p2.2 (r1.gr.step e2 z2) hq (.cons (.str _) .nil), fun z => nomatch z⟩
end
end Pd

/-! Pd16: stores as data, comprehensions stored, steps down, op=, several names at once; defs bundled. -/
namespace Pd
open PySem PySem.Spec PyProof.Rows L2
section
variable {X : Cx} {W : WX} {Z : Ext} {CL : Calls} {ow0 : List Addr} {Hb : Hp}
/-- name = e, kept as data -/
def wSetD (i : Nat) (w : WE) : WS := fun E ρ => w ρ (fun y => match y.kp with
  | some d => E.nx (ρ.set i (some (.d d)))
  | none => False) (fun x => E.ex x ρ)
theorem sim_setD (i : Nat) {x : Str} {e : Expr} {we : WE} {pos pos' : Pos} (h : SimE X W Z CL ow0 Hb e we) (hN : X.N.Nodup) (hi : X.N[i]? = some x := by rfl) (hx : Loc X.env.scope x := by first | exact Or.inl rfl | exact Or.inr rfl)
    (hs : swapsWith e (some (.Name x pos')) pos.line X.env = pure false := by rfl) (hf : X.fn x = true ∨ X.env.scope.names.lookup x = some .local := by first | exact .inl rfl | exact .inr rfl | assumption) :
    SimS X W Z CL ow0 Hb (.Assign [.Name x pos'] e pos) (wSetD i we) := by
  intro S ρ σ H ow E D r w o
  refine PSat.of (ps_set hN hi hx PEat.pe hs hf) (h S ρ σ H ow _ _ _ r w (fun y v H' p e z q => ?_) (o.bd r))
  split at p
  · rename_i d ed
    exact o.nx _ _ H' ow p ((r.step e z).setD (q.kp ed))
  · exact p.elim
/-- name = [.. for ..] on one line -/
theorem sim_setLcG (i : Nat) {y : Str} {py : Pos} {tg iter elt : Expr} {ifs : List Expr} {scope : Scope} {own : List (Str × Nat)} {pos spos : Pos} {wi : WI} {b : WB} {is : List Nat} {tt : WT} {we : WE} (hc : X.calm = true) (hN : X.N.Nodup) (g0 : Gr Z ow0 Hb) (hi : SimI X W Z CL ow0 Hb tg iter wi) (ok : BlkOk X.N X.env.scope scope own) (his : ∀ i ∈ is, i ∈ own.map (·.2))
    (hg : InBlk X scope fun Y => SimB Y Z CL ow0 Hb tg b is) (ht : InBlk X scope fun Y => SimTs Y W0 Z CL ow0 Hb ifs tt) (he : InBlk X scope fun Y => SimE Y W0 Z CL ow0 Hb elt we)
    (hy : X.N[i]? = some y := by rfl) (hyl : X.env.scope.names.lookup y = some .local := by rfl) (hsw : swapsWith (.ListComp elt [⟨tg, iter, ifs, 0⟩] scope pos) (some (.Name y py)) spos.line X.env = pure true := by exact sw_true rfl rfl rfl (by decide +kernel))
    (hs : ∀ x, foldedSetIterable iter X.env x = pure x := by intro _; rfl) {S : Hp} {ρ : Ev} {σ : L2.St} {H : Hp} {ow : List Addr} {P : Val → Prop} {Ex : Xn → Prop} {D : L2.Ends} (r : Rel CL Z X.K ow0 Hb S ρ σ H ow) (w : wLc wi b tt we (own.map (·.2)) ρ P Ex)
    (gd : Gd CL Z X.K ow H P fun v H' => D.nx (σ.set i (some v)) H') (bd : Bd Z X.K ow X.mg W σ H Ex) : PSat X (.Assign [.Name y py] (.ListComp elt [⟨tg, iter, ifs, 0⟩] scope pos) spos) D σ H := by
  refine PSat.of (ps_setLc (g := fun v σ H Q => InBlk X scope fun Y => PGat Y tg v σ H Q) (tt := fun σ H Q => InBlk X scope fun Y => PTsat Y ifs σ H Q) (te := fun σ H Q => InBlk X scope fun Y => PEat Y elt σ H Q) hc hN hy hyl hsw PIat.pi ok (fun s H C cl fp => ⟨fun pins s' σ H' v u Q I rv h => (h s H C cl fp).go pins s' u I rv⟩) (fun s H C cl fp => ⟨fun pins s' σ H' Q I h => (h s H C cl fp).go pins s' I⟩) (fun s H C cl fp => ⟨fun pins s' σ H' Q I h => (h s H C cl fp).go pins s' I⟩) hs) ?_
  exact lc_parts hg ht he hi his g0 r w gd bd
theorem sim_setLc (i : Nat) {y : Str} {py : Pos} {tg iter elt : Expr} {ifs : List Expr} {scope : Scope} {own : List (Str × Nat)} {pos spos : Pos} {wi : WI} {b : WB} {is : List Nat} {tt : WT} {we : WE} (hc : X.calm = true) (hN : X.N.Nodup) (g0 : Gr Z ow0 Hb) (hi : SimI X W Z CL ow0 Hb tg iter wi) (ok : BlkOk X.N X.env.scope scope own) (his : ∀ i ∈ is, i ∈ own.map (·.2))
    (hg : InBlk X scope fun Y => SimB Y Z CL ow0 Hb tg b is) (ht : InBlk X scope fun Y => SimTs Y W0 Z CL ow0 Hb ifs tt) (he : InBlk X scope fun Y => SimE Y W0 Z CL ow0 Hb elt we)
    (hy : X.N[i]? = some y := by rfl) (hyl : X.env.scope.names.lookup y = some .local := by rfl) (hsw : swapsWith (.ListComp elt [⟨tg, iter, ifs, 0⟩] scope pos) (some (.Name y py)) spos.line X.env = pure true := by exact sw_true rfl rfl rfl (by decide +kernel))
    (hs : ∀ x, foldedSetIterable iter X.env x = pure x := by intro _; rfl) : SimS X W Z CL ow0 Hb (.Assign [.Name y py] (.ListComp elt [⟨tg, iter, ifs, 0⟩] scope pos) spos) (wSet i (wLc wi b tt we (own.map (·.2)))) := by
  intro S ρ σ H ow E D r w o
  refine sim_setLcG i hc hN g0 hi ok his hg ht he hy hyl hsw hs r w (fun t v H' p e z q => ?_) (o.bd r)
  split at p
  · rename_i t' et
    have et' := slv_eq et
    subst et'
    obtain ⟨ow', r'⟩ := r.set (i := i) e z q et
    exact o.nx _ _ H' ow' p r'
  · exact p.elim
theorem sim_setLcD (i : Nat) {y : Str} {py : Pos} {tg iter elt : Expr} {ifs : List Expr} {scope : Scope} {own : List (Str × Nat)} {pos spos : Pos} {wi : WI} {b : WB} {is : List Nat} {tt : WT} {we : WE} (hc : X.calm = true) (hN : X.N.Nodup) (g0 : Gr Z ow0 Hb) (hi : SimI X W Z CL ow0 Hb tg iter wi) (ok : BlkOk X.N X.env.scope scope own) (his : ∀ i ∈ is, i ∈ own.map (·.2))
    (hg : InBlk X scope fun Y => SimB Y Z CL ow0 Hb tg b is) (ht : InBlk X scope fun Y => SimTs Y W0 Z CL ow0 Hb ifs tt) (he : InBlk X scope fun Y => SimE Y W0 Z CL ow0 Hb elt we)
    (hy : X.N[i]? = some y := by rfl) (hyl : X.env.scope.names.lookup y = some .local := by rfl) (hsw : swapsWith (.ListComp elt [⟨tg, iter, ifs, 0⟩] scope pos) (some (.Name y py)) spos.line X.env = pure true := by exact sw_true rfl rfl rfl (by decide +kernel))
    (hs : ∀ x, foldedSetIterable iter X.env x = pure x := by intro _; rfl) : SimS X W Z CL ow0 Hb (.Assign [.Name y py] (.ListComp elt [⟨tg, iter, ifs, 0⟩] scope pos) spos) (wSetD i (wLc wi b tt we (own.map (·.2)))) := by
  intro S ρ σ H ow E D r w o
  refine sim_setLcG i hc hN g0 hi ok his hg ht he hy hyl hsw hs r w (fun t v H' p e z q => ?_) (o.bd r)
  split at p
  · rename_i d ed
    exact o.nx _ _ H' ow p ((r.step e z).setD (q.kp ed))
  · exact p.elim
/-- range(i, j, -1) -/
def downD (lo : Int) (n : Nat) : List D := (List.range n).map fun i => .int (lo - (i : Nat))
theorem itD_down {K : PySem.W.Frag} {S1 : Hp} {lo : Int} {n : Nat} : ItD K S1 (Itc lo (-1) n) (downD lo n) where
  go := fun i H e hi => by
    have : i < n := by simpa [downD] using hi
    exact this
  stop := fun H e => by simp [downD, Itc]
  yld := fun i H x H' ow d _ e hd y => by
    obtain ⟨rfl, rfl⟩ := y
    have hi : i < n := by simpa [downD] using (List.getElem?_eq_some_iff.mp hd).1
    unfold downD at hd
    rw [List.getElem?_map, List.getElem?_range hi] at hd
    cases hd
    have e1 : lo + (i : Int) * (-1) = lo - (i : Int) := by omega
    rw [e1]
    exact ⟨.refl _, .int _⟩
def wRng3 (w : WA) : WI := fun ρ P Ex => w ρ (fun ys => match ys with
  | [x, y, z] => match x.rd, y.rd, z.rd with
    | some (.int i), some (.int j), some (.int (-1)) => rgOk i ∧ rgOk j ∧ (i - j).toNat ≤ sizeLine ∧ P (downD i (i - j).toNat)
    | _, _, _ => False
  | _ => False) Ex
theorem sim_rng3 {tg a c d : Expr} {wa : WA} {p pos : Pos} (hg : Gl X "range") (hm : X.mg "range" = none) (h : SimA X W Z CL ow0 Hb [a, c, d] wa) (hs : starEach [a, c, d] X.env = (false, eval a X.env) :: starEach [c, d] X.env := by rfl) (hpl : (backTo pos (starEach [c, d] X.env)).any (·.1) = false := by rfl) :
    SimI X W Z CL ow0 Hb tg (.Call (.Name "range" p) [a, c, d] [] pos) (wRng3 wa) := by
  intro S ρ σ H ow P Ex R r w g b
  refine PIat.of (pi_range3 hg hm PAat.pa hs hpl) (h S ρ σ H ow _ Ex _ r w (fun ys vs H' p e z q => ?_) b)
  split at p
  · split at p
    · rename_i x y z' i j ei ej ek
      cases q with
      | cons q1 q2 =>
        cases q2 with
        | cons q2 q3 =>
          cases q3 with
          | cons q3 q4 =>
            cases q4
            exact ⟨i, j, -1, _, by rw [q1.int ei, q2.int ej, q3.int ek], RgC.neg p.1.1 p.1.2 p.2.1.1 p.2.1.2, g _ _ H' p.2.2.2 e z itD_down fun _ => by simpa [downD] using p.2.2.1⟩
    · exact p.elim
  · exact p.elim
/-- name += e, ints -/
def wAug (i : Nat) (f : Int → Int → Int) (w : WE) : WS := fun E ρ => match ρ[i]? with
  | some (some (.d (.int k))) => w ρ (fun y => match y.rd with
    | some (.int j) => E.nx (ρ.set i (some (.d (.int (f k j)))))
    | _ => False) (fun x => E.ex x ρ)
  | _ => False
theorem sim_aug (i : Nat) {op : Operator} {f : Int → Int → Int} {x : Str} {e : Expr} {we : WE} {pos pos' : Pos} (ho : PIp X op (ipI f)) (h : SimE X W Z CL ow0 Hb e we) (hN : X.N.Nodup) (hi : X.N[i]? = some x := by rfl) (hx : Loc X.env.scope x := by first | exact Or.inl rfl | exact Or.inr rfl)
    (hf : X.fn x = true ∨ X.env.scope.names.lookup x = some .local := by first | exact .inl rfl | exact .inr rfl | assumption) : SimS X W Z CL ow0 Hb (.AugAssign (.Name x pos') op e pos) (wAug i f we) := by
  intro S ρ σ H ow E D r w o
  unfold wAug at w
  split at w
  · rename_i k hk
    obtain ⟨v, h1, h2⟩ := r.val i _ hk
    cases (h2 : Dt X.K (hid ow H) v (.int k))
    refine PSat.of (ps_aug hN hi hx PEat.pe ho hf) ⟨.int k, h1, ?_⟩
    refine h S ρ σ H ow _ _ _ r w (fun y v H' p e z q => ?_) (o.bd r)
    split at p
    · rename_i j ej
      exact ⟨k, j, rfl, q.int ej, o.nx _ _ H' ow p ((r.step e z).setD (.int _))⟩
    · exact p.elim
  · exact w.elim
/-- target = e, the value data -/
def wAsg (b : WB) (w : WE) : WS := fun E ρ => w ρ (fun y => match y.kp with
  | some d => b ρ d fun ρ' => E.nx ρ'
  | none => False) (fun x => E.ex x ρ)
theorem sim_asg {tg e : Expr} {b : WB} {is : List Nat} {we : WE} {pos : Pos} (h : SimE X W Z CL ow0 Hb e we) (hb : SimB X Z CL ow0 Hb tg b is) (hs : swapsWithSole [tg] e pos.line X.env = pure false := by rfl) (hw : swappedStores [tg] e X.env = pure none := by rfl)
    (h1 : (assignEach [tg] X.env).map (·.2) = [assign tg X.env] := by rfl) : SimS X W Z CL ow0 Hb (.Assign [tg] e pos) (wAsg b we) := by
  intro S ρ σ H ow E D r w o
  refine PSat.of (ps_asg PEat.pe PGat.pg hs hw h1) (h S ρ σ H ow _ _ _ r w (fun y v H' p e z q => ?_) (o.bd r))
  split at p
  · rename_i d ed
    exact hb S ρ σ H' ow d v _ _ (r.step e z) (q.kp ed) p fun ρ' σ' n r' _ => o.nx ρ' σ' H' ow n r'
  · exact p.elim
end
/-! ### defs bundled -/
structure Src (K : PySem.W.Frag) (mg : Str → Option Value) (x qual : Str) (st : Stmt) (ps : List Str) : Prop where
  ex : ∃ (f : Addr) (fd : FuncData), Fun K x qual st f fd ∧ mg x = some (.ref f) ∧ Binds K fd ps []
section
variable (P : Program) (w : World) (K : PySem.W.Frag) (mg : Str → Option Value) (base : Heap) (TT : List (Addr × Str)) (kc : Nat)
structure Dfn (x : Str) (k n : Nat) (Φ : Fs) : Prop where
  ex : ∃ (f : Addr) (fd : FuncData) (ps : List Str), ps.length = n ∧ FnOk P w K mg base (L2.CX P w) k f fd ps (spW P w K mg base TT kc n Φ) ∧ mg x = some (.ref f) ∧ PySem.W.keepIn K (.ref f) = true ∧ Binds K fd ps []
structure Gfn (x : Str) (k n : Nat) (Φ : Fs) : Prop where
  ex : ∃ (f : Addr) (fd : FuncData) (ps : List Str), ps.length = n ∧ GnOk P w K mg base k f fd ps (spW P w K mg base TT kc n Φ) ∧ mg x = some (.ref f) ∧ PySem.W.keepIn K (.ref f) = true ∧ Binds K fd ps []
end
/-- the code object of the def at f -/
def CodeOf (K : PySem.W.Frag) (f : Addr) (cdv : Value) : Prop := ∃ oc od fd osl, K.lookup f = some ⟨oc, od, .func fd, osl⟩ ∧ fd.code = cdv
theorem CodeOf.one {K : PySem.W.Frag} {f : Addr} {a b : Value} (x : CodeOf K f a) (y : CodeOf K f b) : a = b := by
  obtain ⟨oc, od, fd, osl, e, rfl⟩ := x
  obtain ⟨oc', od', fd', osl', e', rfl⟩ := y
  rw [e] at e'
  cases e'
  rfl
section
variable {P : Program} {w : World} {K : PySem.W.Frag} {mg : Str → Option Value} {base : Heap} {TT : List (Addr × Str)} {kc : Nat}
theorem Dfn.g {x : Str} {k n : Nat} {Φ : Fs} (d : Dfn P w K mg base TT kc x k n Φ) : Gfn P w K mg base TT kc x k n Φ := by
  obtain ⟨f, fd, ps, h1, h2, h3⟩ := d.ex
  exact ⟨f, fd, ps, h1, .of h2, h3⟩
theorem dfn_of {x qual : Str} {st : Stmt} {N ps : List Str} {k : Nat} {Φ : Fs} {wb : WS} (F : Src K mg x qual st ps) (S : FnScope N ps (defScope st))
    (hbody : ∀ (f : Addr) (cdv : Value) (A : Around) (outer : List Env) (s : Shared) (H : Hp) (E : XK) (Z : Ext) (ow : List Addr), mg x = some (.ref f) → CodeOf K f cdv → Room k (A.deeper (envOfC qual (defScope st) s.heap.objs.size f cdv)) → ZOk P w TT Z → Gr Z ow H →
      SimSs (cxOf (L2.CX P w) P w K mg base N qual (defScope st) f cdv A outer s H E) (fun cls d _ H' => E cls d H') Z (Clb P w K mg base kc Z) ow H (defBody st) wb)
    (hv : ∀ ys R Ex, ys.length = ps.length → ys.all argOk = true → Φ ys R Ex → wb (endW R Ex) (start0 N ys)) : Dfn P w K mg base TT kc x (k + 1) ps.length Φ := by
  obtain ⟨f, fd, hF, hm, hb⟩ := F.ex
  refine ⟨f, fd, ps, rfl, ?_, hm, hF.kp, hb⟩
  obtain ⟨oc, od, kV, doc, pm, an, cdv, ct, osl, rfl, lk, hcd⟩ := hF.ex
  refine fn_of lk hcd S (fun vs H Q E h => h.1) fun A outer s H vs Q E hr h => ?_
  obtain ⟨hl, Z, ow, hT, hh, ys, R, Ex, gr, hy, ha, hΦ, hQ, hE⟩ := h
  refine ⟨_, PSsat.ps, ?_⟩
  refine hbody f cdv A outer s H E Z ow hm ⟨_, _, _, _, lk, rfl⟩ hr hT gr (hid ow H) (start0 N ys) _ H ow (endW R Ex) _ (rel_start gr hh hy ha) (hv ys R Ex (by rw [← hy.length]; exact hl) ha hΦ) ⟨fun ρ σ H' ow' p r => hQ (.d .none) .non H' p rfl r.sb r.gr.ext .non, fun _ _ _ _ p _ => p.elim, fun _ _ _ _ p _ => p.elim, fun y v ρ σ H' ow' p r h ok => hQ y v H' p ok r.sb r.gr.ext (h.less ok r.sub), fun x ρ σ H' ow' cls d p r er => ?_⟩
  refine hE x cls d H' p ⟨er.1, fun n => ?_⟩ r.sb r.gr.ext
  obtain ⟨dx, fs, h1, h2, h3, h4⟩ := er.2 n
  exact ⟨dx, fs, h1, h2, h3, DtAll.mono (hid_less r.sub) h4⟩
theorem gfn_of {x qual : Str} {st : Stmt} {N ps : List Str} {k : Nat} {Φ : Fs} {wb : WS} (F : Src K mg x qual st ps) (S : FnScope N ps (defScope st))
    (hbody : ∀ (f : Addr) (cdv : Value) (A : Around) (outer : List Env) (s : Shared) (H : Hp) (E : XK) (Z : Ext) (ow : List Addr), (A.deeper (envOfC qual (defScope st) s.heap.objs.size f cdv)).guards = some [] → Room k (A.deeper (envOfC qual (defScope st) s.heap.objs.size f cdv)) → ZOk P w TT Z → Gr Z ow H →
      SimSs (cxOf (L2.CX P w) P w K mg base N qual (defScope st) f cdv A outer s H E) (fun cls d _ H' => E cls d H') Z (Clb P w K mg base kc Z) ow H (defBody st) wb)
    (hv : ∀ ys R Ex, ys.length = ps.length → ys.all argOk = true → Φ ys R Ex → wb (endW R Ex) (start0 N ys)) : Gfn P w K mg base TT kc x (k + 1) ps.length Φ := by
  obtain ⟨f, fd, hF, hm, hb⟩ := F.ex
  exact ⟨f, fd, ps, rfl, gn_W hF S (fun cdv A outer s H E Z ow hg hr _ hT gr => hbody f cdv A outer s H E Z ow hg hr hT gr) hv, hm, hF.kp, hb⟩
end
section
variable {X : Cx} {W : WX} {Z : Ext} {ow0 : List Addr} {Hb : Hp} {TT : List (Addr × Str)} {kc : Nat}
theorem sim_callD {k j n : Nat} {Φ : Fs} {x : Str} {p pos : Pos} {e : Expr} {es : List Expr} {wa : WA} (F : Dfn X.prog X.w X.K X.mg X.base TT kc x j n Φ) (hT : ZOk X.prog X.w TT Z) (hr : Room k X.A) (hj : j ≤ k) (tk : Takes X W) (hg : Gl X x) (ha : SimA X W Z (Clb X.prog X.w X.K X.mg X.base kc Z) ow0 Hb (e :: es) wa)
    (hdb : (x == ("__debug__" : Str)) = false := by decide) (he : starEach (e :: es) X.env = (false, eval e X.env) :: starEach es X.env := by rfl) (hpl : (backTo pos (starEach es X.env)).any (·.1) = false := by rfl) : SimE X W Z (Clb X.prog X.w X.K X.mg X.base kc Z) ow0 Hb (.Call (.Name x p) (e :: es) [] pos) (wCall n Φ wa) := by
  obtain ⟨f, fd, ps, rfl, h2, h3, h4, h5⟩ := F.ex
  exact sim_call h2 hT (hr.mono hj) tk hg h3 h4 h5 ha hdb he hpl
theorem sim_callGD {k j n : Nat} {Φ : Fs} {x : Str} {p pos : Pos} {e : Expr} {es : List Expr} {wa : WA} (F : Gfn X.prog X.w X.K X.mg X.base TT kc x j n Φ) (hT : ZOk X.prog X.w TT Z) (hgd : X.A.guards = some []) (hr : Room k X.A) (hj : j ≤ k) (tk : Takes X W) (hg : Gl X x) (ha : SimA X W Z (Clb X.prog X.w X.K X.mg X.base kc Z) ow0 Hb (e :: es) wa)
    (hdb : (x == ("__debug__" : Str)) = false := by decide) (he : starEach (e :: es) X.env = (false, eval e X.env) :: starEach es X.env := by rfl) (hpl : (backTo pos (starEach es X.env)).any (·.1) = false := by rfl) : SimE X W Z (Clb X.prog X.w X.K X.mg X.base kc Z) ow0 Hb (.Call (.Name x p) (e :: es) [] pos) (wCall n Φ wa) := by
  obtain ⟨f, fd, ps, rfl, h2, h3, h4, h5⟩ := F.ex
  exact sim_callG h2 hT hgd (hr.mono hj) tk hg h3 h4 h5 ha hdb he hpl
/-- a def's name as a callable -/
def wFnA (φ : Fn1) : WE := fun _ P _ => ∀ f, P (.fn f φ)
theorem sim_fnA {k : Nat} {Φ : Fs} {φ : Fn1} {x : Str} {pos : Pos} (F : Dfn X.prog X.w X.K X.mg X.base TT kc x k 1 Φ) (hT : ZOk X.prog X.w TT Z) (hk : k ≤ kc) (hg : Gl X x)
    (hφ : ∀ d R, φ d R → Φ [.d d] (fun y => match y with
      | .d x => R x
      | _ => False) (fun _ => False)) (hdb : (x == ("__debug__" : Str)) = false := by decide) : SimE X W Z (Clb X.prog X.w X.K X.mg X.base kc Z) ow0 Hb (.Name x pos) (wFnA φ) := by
  obtain ⟨f, fd, ps, h1, h2, h3, h4, h5⟩ := F.ex
  match ps, h1 with
  | [q], _ =>
    intro S ρ σ H ow P Ex Q r w g b
    exact PEat.of (pe_glob (v := .ref f) hg h3 rfl hdb) (g _ _ H (w f) (.refl _ _) r.gr.ext ⟨rfl, Clb.ofFn h2 hT hk h4 h5 hφ⟩)
theorem sim_callLD {k j : Nat} {Φ : Fs} {x p : Str} {xp pos lpos : Pos} {e body : Expr} {params : Arguments} {scope : Scope} {c P : Addr} {N : List Str} {we wb : WE} {jb : Nat} (F : Dfn X.prog X.w X.K X.mg X.base TT kc x j 2 Φ) (hT : ZOk X.prog X.w TT Z) (hr : Room k X.A) (hj : j ≤ k) (tk : Takes X W) (hg : Gl X x) (he : SimE X W Z (Clb X.prog X.w X.K X.mg X.base kc Z) ow0 Hb e we)
    (TB : LamX.TabB X.base X.mg c P) (hcode : X.env.code = .ref c) (hmT : (P, X.env.qual ++ "<lambda>") ∈ TT) (hu : ∀ p ∈ TT, p.1 = P → p.2 = X.env.qual ++ "<lambda>") (hjb : jb + 1 ≤ kc) (SN : NdefX.NScope N [p] [] scope) (hdef : defaultsOf params X.env = ([], [])) (hcl : ∀ cells, cloFrom cells scope.names [] = [])
    (hbind : ∀ (qual : Str) (u : Value) (pm cv ctv : Value), bindArgs (PySem.W.kla_fn "<lambda>" qual params body scope [] pm cv ctv) ⟨[u], []⟩ = pure [(p, u)])
    (hbody : ∀ (Z' : Ext) (f' c' : Addr) (A : Around) (outer : List Env) (s : Shared) (H : Hp) (E : XK) (ow : List Addr), ZOk X.prog X.w TT Z' → Room jb (A.deeper (NdefX.envF (lamNF (X.env.qual ++ "<lambda>") params scope c') f' s.heap.objs.size)) → Gr Z' ow H →
      SimE (NdefX.ncx (L2.CX X.prog X.w) X.prog X.w X.K X.mg X.base N (lamNF (X.env.qual ++ "<lambda>") params scope c') f' A outer s H E) (fun cls d _ H' => E cls d H') Z' (Clb X.prog X.w X.K X.mg X.base kc Z') ow H body wb)
    (hdb : (x == ("__debug__" : Str)) = false := by decide) (hs : starEach [e, .Lambda params body scope lpos] X.env = (false, eval e X.env) :: starEach [.Lambda params body scope lpos] X.env := by rfl) (hpl : (backTo pos (starEach [.Lambda params body scope lpos] X.env)).any (·.1) = false := by rfl)
    (hs2 : starEach [.Lambda params body scope lpos] X.env = (false, eval (.Lambda params body scope lpos) X.env) :: starEach [] X.env := by rfl) :
    SimE X W Z (Clb X.prog X.w X.K X.mg X.base kc Z) ow0 Hb (.Call (.Name x xp) [e, .Lambda params body scope lpos] [] pos)
      (wCallL Φ (fun d R => wb (start0 N [.d d]) (fun y => match y.kp with
        | some x => R x
        | none => False) fun _ => False) we) := by
  obtain ⟨f, fd, ps, h1, h2, h3, h4, h5⟩ := F.ex
  exact sim_callL h2 h1 hT (hr.mono hj) tk hg h3 h4 h5 he TB hcode (by rw [hT.tabs]; exact hmT) (by rw [hT.tabs]; exact hu) hjb SN hdef hcl hbind hbody hdb hs hpl hs2
end
end Pd

/-! Pd17: loops by invariants. -/
namespace Pd
open PySem PySem.Spec PyProof.Rows L2
theorem room_hu {k : Nat} {A : Around} (r : Room k A) : A.units + 200 < cLine := by have := r.un; omega
theorem forW_inv {b : WB} {body : WS} {E : En} (Inv : List D → Ev → Prop) (step : ∀ d ds ρ (K : Ev → Prop), Inv (d :: ds) ρ → (∀ ρ', Inv ds ρ' → K ρ') → b ρ d fun ρ' => body { E with nx := K, ct := K, bk := E.nx } ρ') (done : ∀ ρ, Inv [] ρ → E.nx ρ) :
    ∀ (ds : List D) (ρ : Ev), Inv ds ρ → forW b body E ds ρ
  | [], ρ, h => done ρ h
  | d :: ds, ρ, h => step d ds ρ (forW b body E ds) h fun ρ' h' => forW_inv Inv step done ds ρ' h'
theorem lcW_inv {b : WB} {tt : WT} {we : WE} {ρ0 : Ev} {P : List D → Prop} (Inv : List D → List D → Prop)
    (step : ∀ d ds acc (K : List D → Prop), Inv (d :: ds) acc → (∀ acc', Inv ds acc' → K acc') → b ρ0 d fun ρ' => tt ρ' (fun c => if c = true then we ρ' (fun y => match y.kp with
      | some e => K (acc ++ [e])
      | none => False) (fun _ => False) else K acc) (fun _ => False)) (done : ∀ acc, Inv [] acc → P acc) : ∀ (ds acc : List D), Inv ds acc → lcW b tt we ρ0 P ds acc
  | [], acc, h => done acc h
  | d :: ds, acc, h => step d ds acc (lcW b tt we ρ0 P ds) h fun acc' h' => lcW_inv Inv step done ds acc' h'
/-- each item made by g -/
theorem lcW_map {b : WB} {we : WE} {ρ0 : Ev} {P : List D → Prop} (g : D → D) {ds : List D} (h : ∀ d ∈ ds, ∀ K : D → Prop, K (g d) → b ρ0 d fun ρ' => we ρ' (fun y => match y.kp with
      | some e => K e
      | none => False) (fun _ => False)) : ∀ {acc : List D}, P (acc ++ ds.map g) → lcW b wYes we ρ0 P ds acc := by
  induction ds with
  | nil =>
    intro acc q
    simpa [lcW] using q
  | cons d ds ih =>
    intro acc q
    unfold lcW
    have := h d List.mem_cons_self (fun e => lcW b wYes we ρ0 P ds (acc ++ [e])) (ih (fun d m => h d (List.mem_cons_of_mem _ m)) (by simpa using q))
    exact this
end Pd

/-! Pd18: the law's end, for a law that is entered with nothing being shown. -/
namespace Pd
open PySem PySem.Spec PyProof.Rows L2
/-- what is tracked at the law's entry: the tables, the script -/
def H0 (K : PySem.W.Frag) (tabs : List Addr) (a : Addr) (o : Obj) (ns : List Int) : Hp := fun b =>
  if b ∈ tabs then some (.tbl #[]) else if b = a ∧ (K.lookup a).isNone = true then some (.frz o (.lst (ns.map V.int))) else none
section
variable {K : PySem.W.Frag} {tabs : List Addr} {a b : Addr} {o : Obj} {ns : List Int}
theorem H0.tab (h : b ∈ tabs) : H0 K tabs a o ns b = some (.tbl #[]) := if_pos h
theorem H0.no (h : b ∉ tabs) (h2 : ¬ (b = a ∧ (K.lookup a).isNone = true)) : H0 K tabs a o ns b = none := by
  unfold H0
  rw [if_neg h, if_neg h2]
theorem H0.scr (h : a ∉ tabs) (h2 : K.lookup a = none) : H0 K tabs a o ns a = some (.frz o (.lst (ns.map V.int))) := by
  unfold H0
  rw [if_neg h, if_pos ⟨rfl, by rw [h2]; rfl⟩]
theorem H0.cases {u : HO} (h : H0 K tabs a o ns b = some u) : (b ∈ tabs ∧ u = .tbl #[]) ∨ (b = a ∧ K.lookup a = none ∧ u = .frz o (.lst (ns.map V.int))) := by
  unfold H0 at h
  split at h
  · rename_i m
    exact .inl ⟨m, (Option.some.inj h).symm⟩
  · split at h
    · rename_i m
      refine .inr ⟨m.1, ?_, (Option.some.inj h).symm⟩
      cases q : K.lookup a with
      | none => rfl
      | some v => rw [q] at m; cases m.2
    · cases h
end
abbrev scrO (vs : List Value) : Obj := { cls := .type "list", data := .seq vs.toArray }
abbrev tabO : Obj := { cls := .none, data := .fields #[] }
theorem law_run {P : Program} {w : World} {K : PySem.W.Frag} {mg mb : Str → Option Value} {k : Nat} {fa a : Addr} {cs : List (Addr × Addr)} {fd : FuncData} {x : Str} {sp : Sp} {s : Shared} {vs : List Value} {ns : List Int}
    (kin : K.In s.heap) (glob : s.heap.Ns mainGlobals mg) (blt : s.heap.Ns builtinsNs mb) (bltIs : ∀ x : Str, x ≠ "__name__" → mb x = bootBuiltins x) (lim : s.heap.NoLimit) (noGens : s.gens = #[])
    (tabAt : ∀ p ∈ cs, s.heap.get? p.2 = some tabO) (tabK : ∀ p ∈ cs, K.lookup p.2 = none) (code : ∀ p ∈ cs, PySem.W.CodeHd s.heap p.1 p.2)
    (bmod : ∃ (bm : Addr) (ob : Obj), mg "__builtins__" = some (.ref bm) ∧ bm ≠ builtinsNs ∧ s.heap.get? bm = some ob ∧ ob.cls = .type "module" ∧ ob.dict = some builtinsNs ∧ ob.data = .plain)
    (scr : s.heap.get? a = some (scrO vs)) (areInts : IntsAre vs ns) (few : ns.length ≤ sizeLine) (hr : Room k callerA)
    (F : ∀ base : Heap, K.In base → base.Ns mainGlobals mg → (∀ p ∈ cs, LamX.TabB base mg p.1 p.2) → GnOk P w K mg base k fa fd [x] sp) (bnd : ∀ (s : Shared) (u : Value), BindsTo s fd ⟨[u], []⟩ [(x, u)])
    (start : ∀ H : Hp, (∀ p ∈ cs, H p.2 = some (.tbl #[])) → SqL K H a (ns.map V.int) → sp [.ref a] H (fun v _ => v = .bl true) fun _ _ _ => False) :
    codeAny (model P w) callerA (.call (.ref fa) ⟨[.ref a], []⟩) (fun r s' => r = .ok (.ret (.bool true)) ∧ OldK s.heap s'.heap ∧ s'.os = s.os ∧ AllBare s'.gens) s := by
  have rel := vals_ints areInts
  have many := areInts.length
  have inTab : ∀ {b}, b ∈ cs.map (·.2) → s.heap.get? b = some tabO := fun {b} m => by
    obtain ⟨p, hp, rfl⟩ := List.mem_map.mp m
    exact tabAt p hp
  have aNo : a ∉ cs.map (·.2) := fun m => by
    have q := (inTab m).symm.trans scr
    have z : Data.fields #[] = Data.seq vs.toArray 0 := congrArg Obj.data (Option.some.inj q)
    cases z
  generalize hH : H0 K (cs.map (·.2)) a (scrO vs) ns = H
  have onTab : ∀ p ∈ cs, H p.2 = some (.tbl #[]) := fun p hp => by rw [← hH]; exact H0.tab (List.mem_map.mpr ⟨p, hp, rfl⟩)
  have split : ∀ {b u}, H b = some u → (b ∈ cs.map (·.2) ∧ u = .tbl #[]) ∨ (b = a ∧ K.lookup a = none ∧ u = .frz (scrO vs) (.lst (ns.map V.int))) := fun {b u} e => H0.cases (by rw [hH]; exact e)
  have held : HOk P w H s.heap := fun b u e => by
    rcases split e with ⟨m, rfl⟩ | ⟨rfl, _, rfl⟩
    · exact inTab m
    · exact ⟨scr, by rw [List.length_map]; exact few, vs, _, rel, scr⟩
  have isScr : SqL K H a (ns.map V.int) := by
    cases q : K.lookup a with
    | none => exact .inl (.inr ⟨scrO vs, by rw [← hH]; exact H0.scr aNo q⟩)
    | some o =>
      have e := (kin a o q).symm.trans scr
      cases e
      exact .inr ⟨_, vs.toArray, _, q, rfl, rfl, rfl, by rw [List.size_toArray, many]; exact few, by simpa using rel⟩
  -- what is neither a table nor the script is not tracked
  have free : ∀ {b : Addr} {o : Obj}, s.heap.get? b = some o → (∀ us n, o.data ≠ .seq us n) → o.data ≠ .fields #[] → H b = none := fun {b o} e n1 n2 => by
    cases q : H b with
    | none => rfl
    | some u =>
      rcases split q with ⟨m, _⟩ | ⟨rfl, _, _⟩
      · have z := (inTab m).symm.trans e
        cases z
        exact (n2 rfl).elim
      · have z := scr.symm.trans e
        cases z
        exact (n1 _ _ rfl).elim
  have kept : ∀ {b : Addr} {o : Obj}, s.heap.get? b = some o → (∀ us n, o.data ≠ .seq us n) → o.data ≠ .fields #[] → (hidT s.heap H).get? b = some o := fun e n1 n2 => hidT_get e (free e n1 n2)
  have ns' : ∀ {b : Addr} {m : Str → Option Value}, s.heap.Ns b m → (hidT s.heap H).Ns b m := fun {b m} ⟨o, es, ep, e, d, r⟩ => ⟨o, es, ep, kept e (fun us n z => by rw [d] at z; cases z) (fun z => by rw [d] at z; cases z), d, r⟩
  have kin' : K.In (hidT s.heap H) := fun b o e => hidT_get (kin b o e) (by
    cases q : H b with
    | none => rfl
    | some u =>
      rcases split q with ⟨m, _⟩ | ⟨rfl, z, _⟩
      · obtain ⟨p, hp, rfl⟩ := List.mem_map.mp m
        rw [tabK p hp] at e
        cases e
      · rw [z] at e
        cases e)
  have tb : ∀ p ∈ cs, LamX.TabB (hidT s.heap H) mg p.1 p.2 := fun p hp => by
    refine ⟨?_, ?_, fun z => ?_⟩
    · obtain ⟨oc, us, file, tf, flags, tg, inF, text, tt, e1, r1, r2, r3, rest⟩ := code p hp
      refine ⟨oc, us, file, tf, flags, tg, inF, text, tt, kept e1 (fun us n z => by rw [r2] at z; cases z) (fun z => ?_), r1, r2, r3, rest⟩
      rw [r2] at z
      cases z
      simp at r3
    · obtain ⟨bm, ob, b1, b2, b3, b4, b5, b6⟩ := bmod
      refine ⟨bm, ob, b1, b2, fun q => ?_, fun q => ?_, kept b3 (fun us n z => by rw [b6] at z; cases z) (fun z => by rw [b6] at z; cases z), b4, b5, b6⟩
      · obtain ⟨o, es, ep, e, hd, _⟩ := glob
        rw [← q, b3] at e
        cases e
        rw [hd] at b6
        cases b6
      · rw [q, tabAt p hp] at b3
        cases b3
        cases b6
    · obtain ⟨o, es, ep, e, hd, _⟩ := glob
      rw [z, tabAt p hp] at e
      cases e
      cases hd
  have entry : Env0 P w K mg (hidT s.heap H) callerA [] s H := ⟨rfl, ⟨kin', ns' glob, ⟨mb, ns' blt, bltIs⟩, let ⟨mc, h1, h2⟩ := lim; ⟨mc, ns' h1, h2⟩⟩, fun b o e => of_hidT e, Nat.le_of_eq (hidT_size _ _), trivial, fun b hb => absurd hb (by simp [frs]), held, .of_eq noGens⟩
  refine codeAny_mono ((F _ kin' (ns' glob) tb).run callerA [] s H ⟨[.ref a], []⟩ [.ref a] [.ref a] _ _ rfl hr entry (bnd s (.ref a)) (.cons rfl .nil) (start H onTab isScr)) fun r s' out => ?_
  rcases r with e | fl
  · obtain ⟨_, _, _, _, _, _, _, _, _, _, _, _, z⟩ := out
    exact z.elim
  · cases fl with
    | next => exact False.elim out
    | brk => exact False.elim out
    | cont => exact False.elim out
    | ret u =>
      obtain ⟨v, H', os, bare, un, held', rv, q⟩ := out
      obtain rfl : v = .bl true := q
      obtain rfl : u = Value.bool true := rv
      have stays : ∀ b o, b ∉ cs.map (·.2) → s.heap.get? b = some o → s'.heap.get? b = some o := fun b o nb e => by
        cases q : H b with
        | none => exact un.keep b o e q (by simp [frs]) (by simp)
        | some u =>
          rcases split q with ⟨m, _⟩ | ⟨_, _, rfl⟩
          · exact absurd m nb
          · obtain ⟨e1, _⟩ := held b _ q
            obtain ⟨e2, _⟩ := held' b _ (un.frzs b _ _ q)
            rw [e1] at e
            cases e
            exact e2
      have grew : ∀ p ∈ cs, ∃ more : Array Value, s'.heap.get? p.2 = some { cls := .none, data := .fields more } := fun p hp => by
        obtain ⟨more, z⟩ := un.tbls p.2 #[] (onTab p hp)
        exact ⟨_, held' p.2 _ z⟩
      refine ⟨rfl, ⟨fun b o e => ?_, fun b o e => ?_⟩, os, bare⟩
      · by_cases m : b ∈ cs.map (·.2)
        · obtain ⟨p, hp, rfl⟩ := List.mem_map.mp m
          obtain ⟨more, hm⟩ := grew p hp
          have z := (tabAt p hp).symm.trans e
          cases z
          exact .inr (.inl ⟨((code p hp).tab (tabAt p hp)).isCodeTable, rfl, #[], more, rfl, by rw [Array.empty_append]; exact hm⟩)
        · exact .inl (stays b o m e)
      · by_cases m : b ∈ cs.map (·.2)
        · obtain ⟨p, hp, rfl⟩ := List.mem_map.mp m
          obtain ⟨more, hm⟩ := grew p hp
          exact ⟨_, hm⟩
        · exact ⟨o, stays b o m e⟩
/-- what the head gives of the law -/
def LawAtG (l : PySem.W.OpenLaw) (w : World) (K : PySem.W.Frag) (k n : Nat) (x : Str) (mg : Str → Option Value) (fa : Addr) (h : Heap) : Prop :=
  ∃ (fd : FuncData) (cs : List (Addr × Addr)) (sp : Sp), (∀ p ∈ cs, h.get? p.2 = some tabO) ∧ (∀ p ∈ cs, K.lookup p.2 = none) ∧ (∀ p ∈ cs, PySem.W.CodeHd h p.1 p.2) ∧ (∀ (s : Shared) (u : Value), BindsTo s fd ⟨[u], []⟩ [(x, u)]) ∧
    (∀ (H : Hp) (a : Addr) (ns : List Int), ns.length ≤ n → (∀ p ∈ cs, H p.2 = some (.tbl #[])) → SqL K H a (ns.map V.int) → sp [.ref a] H (fun v _ => v = .bl true) fun _ _ _ => False) ∧
    ∀ base : Heap, K.In base → base.Ns mainGlobals mg → (∀ p ∈ cs, LamX.TabB base mg p.1 p.2) → GnOk l.prog w K mg base k fa fd [x] sp
theorem law_walk {l : PySem.W.OpenLaw} {n k : Nat} {q : Program} {loose : List Str} {XP : (Str → Option Value) → Heap → Prop} {YP : World → Heap → Prop} {d : DefRec} {K : Params → PySem.W.Frag} {x : Str}
    (hn : l.most = some n) (hn2 : n ≤ sizeLine) (hdf : d.params.defaults = []) (hr : Room k callerA) (hY : ∀ (w : World) (h : Heap), YP w h → (K w.params).In h)
    (F : ∀ (w : World) (mg : Str → Option Value) (fa : Addr) (h : Heap), YP w h → (K w.params).In h → h.Ns mainGlobals mg → mg d.name = some (.ref fa) → LawAtG l w (K w.params) k n x mg fa h) :
    PySem.W.WalkO q loose XP YP l.row.toRowW d [] (fun f vs => PySem.call f vs) := by
  refine Att.attach_callB hn hdf fun w s₀ s mg mb fa o pm cd doc a vs ns G Y ho hd hcd hmg scr areInts few bits noGens => ?_
  obtain ⟨fd, cs, sp, tabAt, tabK, code, bnd, start, run⟩ := F w mg fa _ Y (hY w _ Y) G.T.g hmg
  exact law_run (hY w _ Y) G.T.g G.T.b G.T.builtins G.T.nolimit noGens tabAt tabK code G.T.bmain scr areInts (Nat.le_trans few hn2) hr run bnd fun H h1 h2 => start H a ns few h1 h2
end Pd

/-! Pd19: the law's bag made from the script; the law by what stands behind it. -/
namespace Pd
open PySem PySem.Spec PyProof.Rows L2
def spBag (K : PySem.W.Frag) (TT : List (Addr × Str)) : Sp := fun vs H Q _ => ∃ (a : Addr) (ns : List Int), vs = [.ref a] ∧ SqL K H a (ns.map V.int) ∧ ns.length ≤ 63 ∧ LamX.Tabs TT H ∧ ∀ b c H', LamX.Tabs TT H' → BagAt H' b c → Q (.ref b) H'
def spLaw (K : PySem.W.Frag) (TT : List (Addr × Str)) : Sp := fun vs H Q _ => ∃ (a : Addr) (ns : List Int), vs = [.ref a] ∧ SqL K H a (ns.map V.int) ∧ ns.length ≤ 63 ∧ LamX.Tabs TT H ∧ ∀ H', Q (.bl true) H'
def noBag (TT : List (Addr × Str)) : Ext := { bag := none, tabs := TT, fns := [] }
theorem gr_noBag {TT : List (Addr × Str)} {H : Hp} (h : LamX.Tabs TT H) : Gr (noBag TT) [] H := by
  refine ⟨⟨True.intro, h, ?_⟩, ?_, ?_⟩ <;> (intro x m; exact absurd m (by simp [noBag, fp, fpB]))
theorem SqL.same {K : PySem.W.Frag} {H H' : Hp} {a : Addr} {xs : List V} (h : SqL K H a xs) (e : SameBut [] H H') : SqL K H' a xs := by
  rcases h with (h | ⟨o, h⟩) | h
  · exact .inl (.inl (e a _ (by simp) nt_lst h))
  · exact .inl (.inr ⟨o, e a _ (by simp) (fun ps z => by cases z) h⟩)
  · exact .inr h
def isScr (a : Addr) : Calls := fun f _ => f = a
def fn0 : Fn1 := fun _ _ => False
section
variable {X : Cx} {W : WX} {TT : List (Addr × Str)} {Hb : Hp} {a : Addr} {ns : List Int}
def wScr (ns : List Int) : WI := fun ρ P _ => ρ[0]? = some (some (.fn a fn0)) ∧ P (ns.map .int)
theorem sim_scr {tg : Expr} {x : Str} {xp p2 p3 pos : Pos} {j : Nat} (hS : SqL X.K Hb a (ns.map V.int)) (few : ns.length ≤ 63) (hN : X.N[0]? = some x := by rfl) (hv : Vis X.env.scope x := by first | exact Or.inl rfl | exact Or.inr (Or.inl rfl) | exact Or.inr (Or.inr rfl))
    (hd : (x == ("__debug__" : Str)) = false := by decide) (hcd : (x == ("__classdict__" : Str)) = false := by decide) :
    SimI X W (noBag TT) (isScr a) [] Hb tg (.Subscript (.Name x xp) (.Slice none (some (.Constant (.int 63) j p3)) none p2) pos) (wScr (a := a) ns) := by
  intro S ρ σ H ow P Ex R r w g b
  obtain ⟨v, h1, rfl, _⟩ := r.val 0 _ w.1
  have now : SqL X.K H a (ns.map V.int) := SqL.same hS r.sb
  refine PIat.of (pi_list (pe_slice sl_list (pe_var hN hv hd hcd) po_none (po_some pe_int))) ⟨.ref a, h1, 63, rfl, a, _, rfl, now, fun p hp => ⟨p, rfl, ⟨_, .inl (.of upd_same)⟩, ?_⟩⟩
  have cut : cutV (ns.map V.int) none (some 63) = ns.map V.int := by
    unfold cutV
    simp only [HT.sIx, List.length_map]
    rw [if_neg (by decide)]
    have e : min (63 : Int).toNat ns.length = ns.length := by omega
    rw [e]
    exact List.take_of_length_le (by simp)
  have np : p ∉ ow := r.gr.no (.of hp)
  have le := Le.new (o := .lst (ns.map V.int)) hp
  rw [cut]
  refine g _ _ _ w.2 (.of_le le) (r.gr.ext.le le) (itD_lst (vs := ns.map V.int) (hid_of np upd_same nt_lst) (DtAll.ofInts ns)) fun _ => ?_
  rw [List.length_map, sizeLine_eq]
  omega
end
def wBagOf (a : Addr) (ns : List Int) : WS := wRetO (wLst (wCons (wC (.int 0)) (wCons (wC (.int 1234567891)) (wCons (wC (.int 0)) (wCons (wLc (wScr (a := a) ns) (bName 1) wYes (wCB bAbs (wCons (wVar 1) wNil)) [1]) wNil)))))
def absI (i : Int) : Int := if i < 0 then -i else i
def bagEnd (ns : List Int) : En := { nx := fun _ => False, rt := fun y _ => y = .own [.int 0, .int 1234567891, .int 0, .list ((ns.map absI).map .int)] }
theorem bag_vc (a : Addr) (ns : List Int) : wBagOf a ns (bagEnd ns) [some (.fn a fn0), none] := by
  refine ⟨rfl, lcW_map (fun d => match d with
    | .int i => .int (absI i)
    | d => d) (fun d m K hK => ?_) ?_⟩
  · obtain ⟨i, _, rfl⟩ := List.mem_map.mp m
    exact hK
  · refine ⟨by rw [sizeLine_eq]; show 4 ≤ _; omega, ?_⟩
    show Val.own _ = Val.own _
    simp [Function.comp_def]
section
variable {P : Program} {w : World} {K : PySem.W.Frag} {mg : Str → Option Value} {base : Heap} {TT : List (Addr × Str)}
theorem bag_fn {st : Stmt} {f : Addr} {fd : FuncData} {k : Nat} (F : Fun K "_law_bag" "_law_bag" st f fd) (S : FnScope ["script", "cell"] ["script"] (defScope st))
    (hbody : ∀ (cdv : Value) (A : Around) (outer : List Env) (s : Shared) (H : Hp) (E : XK) (a : Addr) (ns : List Int), SqL K H a (ns.map V.int) → ns.length ≤ 63 → Gr (noBag TT) [] H →
      SimSs (cxOf (L2.CX P w) P w K mg base ["script", "cell"] "_law_bag" (defScope st) f cdv A outer s H E) W0 (noBag TT) (isScr a) [] H (defBody st) (wBagOf a ns)) : FnOk P w K mg base (L2.CX P w) (k + 1) f fd ["script"] (spBag K TT) := by
  refine F.okX S (fun vs H Q E ⟨a, ns, e, _⟩ => by rw [e]; rfl) fun cdv A outer s H vs Q E hr h => ?_
  obtain ⟨a, ns, rfl, hS, few, hT, done⟩ := h
  have gr := gr_noBag hT
  refine ⟨_, PSsat.ps, ?_⟩
  refine hbody cdv A outer s H E a ns hS few gr (hid [] H) [some (.fn a fn0), none] _ H [] (bagEnd ns) _ ⟨gr, rfl, .refl _ _, fun _ m => m, .refl _, (fun _ _ z => nomatch z), fun _ => [], fun i y e => ?_, fun i j a _ m _ => ?_, fun _ _ => rfl⟩ (bag_vc a ns) ⟨fun _ _ _ _ p _ => p.elim, fun _ _ _ _ p _ => p.elim, fun _ _ _ _ p _ => p.elim, fun y v ρ σ H' ow' p r hv _ => ?_, fun _ _ _ _ _ _ _ p _ _ => p.elim⟩
  · match i, e with
    | 0, e => cases e; exact ⟨.ref a, rfl, rfl, rfl, rfl⟩
    | 1, e => cases e
    | i + 2, e => cases e
  · cases m
  · cases p
    have hv := hv.less rfl (ow' := []) fun _ m => nomatch m
    obtain ⟨b, vs, rfl, hn, _, hb, hd⟩ := hv
    cases hd with
    | cons d1 hd =>
      cases d1
      cases hd with
      | cons d2 hd =>
        cases d2
        cases hd with
        | cons d3 hd =>
          cases d3
          cases hd with
          | cons d4 hd =>
            cases hd
            cases d4 with
            | lst hc hcs =>
              rename_i c cv
              obtain ⟨m, hc', _⟩ := hid_some hc
              have e := hcs.ints
              subst e
              refine done b c H' r.gr.ext.tabs ⟨0, 1234567891, 0, ns.map absI, hb, hc', by decide, by decide, by decide, by decide, fun n hn => ?_, by rw [List.length_map]; exact few, fun q => m (by rw [q]; exact List.mem_cons_self)⟩
              obtain ⟨i, _, rfl⟩ := List.mem_map.mp hn
              unfold absI
              split <;> omega
/-- what the law is to do behind the bag's making -/
def lawEnd : En := { nx := fun _ => False, rt := fun y _ => y = .d (.bool true) }
def lawStart (N : List Str) : Ev := none :: some .bag :: List.replicate (N.length - 2) none
theorem law_fn {st : Stmt} {f fB : Addr} {fd fdB : FuncData} {N : List Str} {k kb kc : Nat} {wb : WS} {p1 p2 p3 p4 p5 : Pos} (F : Fun K "law" "law" st f fd) (S : FnScope N ["script"] (defScope st)) (hb : defBody st = .Assign [.Name "bag" p1] (.Call (.Name "_law_bag" p2) [.Name "script" p3] [] p4) p5 :: (defBody st).tail)
    (FB : FnOk P w K mg base (L2.CX P w) kb fB fdB ["script"] (spBag K TT)) (hkb : kb ≤ k) (hmB : mg "_law_bag" = some (.ref fB)) (hkB : PySem.W.keepIn K (.ref fB) = true) (hbB : Binds K fdB ["script"] [])
    (h0 : N[0]? = some ("script" : Str)) (h1 : N[1]? = some ("bag" : Str)) (v0 : Vis (defScope st) "script") (l1 : Loc (defScope st) "bag") (g1 : (defScope st).names.lookup ("_law_bag" : Str) = some .globalImplicit)
    (hbody : ∀ (cdv : Value) (A : Around) (outer : List Env) (s : Shared) (H : Hp) (E : XK) (Z : Ext) (ow : List Addr) (Hb : Hp), CodeOf K f cdv → (cxOf (L2.CX P w) P w K mg base N "law" (defScope st) f cdv A outer s H E).A.guards = some [] → Room k (cxOf (L2.CX P w) P w K mg base N "law" (defScope st) f cdv A outer s H E).A → ZOk P w TT Z → Gr Z ow Hb →
      SimSs (cxOf (L2.CX P w) P w K mg base N "law" (defScope st) f cdv A outer s H E) (fun cls d _ H' => E cls d H') Z (Clb P w K mg base kc Z) ow Hb (defBody st).tail wb)
    (hv : wb lawEnd (lawStart N)) : GnOk P w K mg base (k + 1) f fd ["script"] (spLaw K TT) := by
  obtain ⟨oc, od, kV, doc, pm, an, cdv, ct, osl, rfl, lk, hcd⟩ := F.ex
  refine ⟨fun vs H Q E ⟨a, ns, e, _⟩ => by rw [e]; rfl, fun A outer s H args us vs Q E hg hr e0 hbd rv h => ?_⟩
  obtain ⟨a, ns, rfl, hS, few, hT, done⟩ := h
  refine LamX.run_ofS lk hcd S hr e0 hbd rv rfl fun hr' => ?_
  have hlen : 2 ≤ N.length := by
    have := (List.getElem?_eq_some_iff.mp h1).1
    omega
  have glob : Gl (cxOf (L2.CX P w) P w K mg base N "law" (defScope st) f cdv A outer s H E) "_law_bag" := g1
  let W' : WX := fun cls d _ H' => E cls d H'
  rw [hb]
  refine ⟨_, pss_cons (ps_set (X := cxOf (L2.CX P w) P w K mg base N "law" (defScope st) f cdv A outer s H E) (i := 1) S.nd h1 l1 (pe_callSD (E := L2.WE W0) FB (hr'.mono hkb) glob hmB hkB hbB .nil (fun σ => passAt LamX.takes0 σ) (pa_cons (pe_var (i := 0) h0 v0 (by decide) (by decide)) pa_nil)) rfl) (PSsat.ps (st := (defBody st).tail)), ?_⟩
  refine ⟨.ref a, rfl, a, ns, rfl, hS, few, hT, fun b c H1 T1 B1 => ?_⟩
  have rz : RZ { bag := some (b, c), tabs := TT, fns := [] } H1 := ⟨B1, T1, fun p m => by cases m⟩
  have gr : Gr { bag := some (b, c), tabs := TT, fns := [] } [b, c] H1 := ⟨rz, fun x m => m, fun x m => by
    obtain ⟨us, e⟩ := RB.lists (z := some (b, c)) B1 x m
    exact ⟨_, nt_lst, e⟩⟩
  refine hbody cdv A outer s H E _ [b, c] H1 ⟨_, _, _, _, lk, rfl⟩ hg hr' ⟨rfl⟩ gr (hid [b, c] H1) (lawStart N) _ H1 [b, c] lawEnd _ ⟨gr, ?_, .refl _ _, fun _ m => m, .refl _, (fun _ _ z => nomatch z), fun _ => [], fun i y e => ?_, fun i j a _ m _ => ?_, fun _ _ => rfl⟩ hv ⟨fun _ _ _ _ p _ => p.elim, fun _ _ _ _ p _ => p.elim, fun _ _ _ _ p _ => p.elim, fun y v ρ σ H' ow' p r hv _ => ?_, fun _ _ _ _ _ _ _ p _ _ => p.elim⟩
  · unfold lawStart L2.start
    simp
    omega
  · match i, e with
    | 0, e => cases e
    | 1, e =>
      cases e
      refine ⟨.ref b, ?_, rfl, b, c, rfl, rfl⟩
      show ((L2.start N [.ref a]).set 1 (some (.ref b)))[1]? = _
      rw [List.getElem?_set_self]
      unfold L2.start
      simp
      omega
    | i + 2, e =>
      unfold lawStart at e
      rw [List.getElem?_cons_succ, List.getElem?_cons_succ, List.getElem?_replicate] at e
      split at e <;> cases e
  · cases m
  · cases p
    have hv : Dt K (hid ow' H') v (.bool true) := hv
    cases hv
    exact done H'
end

/-- an error of the class at C is what «except C» names -/
theorem exm_of {K : PySem.W.Frag} {C : Addr} (b : PySem.W.subIn K (.ref C) (.type "BaseException") = some true) (i : PySem.W.isClsIn K C = true) (t : PySem.W.typeIn K (.ref C) = some (.type "type")) (r : PySem.W.subIn K (.ref C) (.ref C) = some true) : PySem.W.exmOne K (.ref C) (.ref C) = some true := by
  have isC : (PySem.W.clsIn K C).isSome = true := i
  have ok1 : (PySem.W.subIn K (.ref C) (.type "BaseException") == some true) = true := by rw [b]; rfl
  have ok2 : ((PySem.W.clsIn K C).isSome && PySem.W.typeIn K (.ref C) == some (.type "type")) = true := by rw [isC, t]; rfl
  refine Eq.trans (if_pos ok1) (Eq.trans (if_pos ok2) r)
end Pd

/-! Pd20: enumerate of lists and tuples, zip. -/
namespace Pd
open PySem PySem.Spec PyProof.Rows L2
/-! ### enumerate of a tuple -/
set_option maxHeartbeats 1000000 in
theorem enumT_new (a : Addr) (items : Array Value) (o : Obj) (hc : o.cls = .type "tuple") (hn : ∃ n, o.data = .seq items n) :
    Meets (Builtin.«enumerate.__new__» ⟨[.type "enumerate", .ref a], []⟩) (fun _ R s => s.heap.get? a = some o ∧
      R (.ok (.ret (.ref (s.heap.push { cls := .type "tuple_iterator", data := .fields #[.ref a, .int 0 0] }).objs.size)))
        { s with heap := (s.heap.push { cls := .type "tuple_iterator", data := .fields #[.ref a, .int 0 0] }).push { cls := .type "enumerate", data := .fields #[.none, .bool false, .ref s.heap.objs.size, rawInt 0, .none, .none] } }) :=
  .of_wp fun prog w A R s hyp => by
    obtain ⟨hp, gg, dd, tk, os⟩ := s
    obtain ⟨at_, fin⟩ := hyp
    obtain ⟨oc, od, oda, osl⟩ := o
    obtain ⟨n, hn⟩ := hn
    simp only at hc hn
    subst hc
    subst hn
    have subE := sub_enumerate
    have isT : Heap.IsTuple (Shared.heap ⟨hp, gg, dd, tk, os⟩) a items := ⟨_, at_, rfl, n, rfl⟩
    wp_walk using AutoSeq1.wpAny_loadPart' at_
    refine wpAny_stack_any fun st => wpAny_pure ?_
    split
    · rename_i c _ _ _ _ _
      cases (c == Value.type "enumerate")
      · wp_walk using AutoSeq1.wpAny_loadPart' at_, wpAny_pyIter_tuple isT
        exact ⟨_, rfl, fin⟩
      · wp_walk using AutoSeq1.wpAny_loadPart' at_, wpAny_pyIter_tuple isT
        exact ⟨_, rfl, fin⟩
    · wp_walk using AutoSeq1.wpAny_loadPart' at_, wpAny_pyIter_tuple isT
      exact ⟨_, rfl, fin⟩
section
variable {prog : Program} {w : World} {A : Around} {E : Value → Shared → Prop} {s : Shared}
theorem enumT_call {a : Addr} {items : Array Value} {Q : Value → Shared → Prop} (isT : s.heap.IsTuple a items)
    (fin : ∀ h', IsEnum h' (s.heap.objs.size + 1) s.heap.objs.size 0 .none → h'.IsTupleIter s.heap.objs.size a 0 → (∀ b o, s.heap.get? b = some o → h'.get? b = some o) → Q (.ref (s.heap.objs.size + 1)) { s with heap := h' }) :
    wpAny (model prog w) A (call (.type "enumerate") [.ref a]) Q E s := by
  obtain ⟨o, at_, hc, n, hd⟩ := isT
  refine callType_new F.called_enumerate (by decide) (F.typeCall_enumerate_1 _) (F.newCall_enumerate_1 _) (fun obj => F.args_object_init_2 obj _) F.entry_enumerate_new (enumT_new a items o hc ⟨n, hd⟩) ⟨at_, ?_⟩
  have grown : (s.heap.push { cls := .type "tuple_iterator", data := .fields #[.ref a, .int 0 0] }).objs.size = s.heap.objs.size + 1 := Heap.size_push ..
  show _ ∧ _
  rw [grown]
  have isE : IsEnum ((s.heap.push { cls := .type "tuple_iterator", data := .fields #[.ref a, .int 0 0] }).push { cls := .type "enumerate", data := .fields #[.none, .bool false, .ref s.heap.objs.size, rawInt 0, .none, .none] }) (s.heap.objs.size + 1) s.heap.objs.size 0 .none := by
    have z := Heap.get?_push_size (s.heap.push { cls := .type "tuple_iterator", data := .fields #[.ref a, .int 0 0] }) (o := { cls := .type "enumerate", data := .fields #[.none, .bool false, .ref s.heap.objs.size, rawInt 0, .none, .none] }) rfl
    rw [grown] at z
    exact z
  exact ⟨⟨_, isE, rfl⟩, fin _ isE ⟨_, Heap.get?_push_of_some _ (Heap.get?_push_size _ rfl), rfl, rfl⟩ fun b o q => Heap.get?_push_of_some _ (Heap.get?_push_of_some _ q)⟩
end
/-- the tuple's items with their places, in new pairs -/
def IteT (K : PySem.W.Frag) (a : Addr) : It :=
  ⟨fun i H => ∃ (xs : List V) (x : V), SqT K H a xs ∧ xs[i]? = some x, fun i H v H' => ∃ T x, v = .ref T ∧ H T = none ∧ H' = upd H T (.tup [.int (i : Nat), x]) ∧ ∀ xs, SqT K H a xs → xs[i]? = some x, fun i H => ∃ xs : List V, SqT K H a xs ∧ xs.length = i⟩
theorem turn_enumT {P : Program} {w : World} {K : PySem.W.Frag} {elts : List Expr} {kk : Nat} {tpos : Pos} {a e it : Addr} (hae : a ≠ e) (hai : a ≠ it) :
    Turn P w K (.Tuple elts kk tpos) (IteT K a) [e, it] e (fun i h => (∃ old, IsEnum h e it ((i : Nat) : Int) old) ∧ h.IsTupleIter it a i ∧ e ≠ it) where
  mem := by simp
  obj := fun i h st b hb => by
    obtain ⟨⟨old, isE⟩, ⟨o, at_, _, dat⟩, _⟩ := st
    rcases (by simpa using hb : b = e ∨ b = it) with rfl | rfl
    · exact ⟨_, isE, fun v q => nomatch q⟩
    · exact ⟨o, at_, fun v q => by rw [dat] at q; cases q⟩
  keep := fun i h h' st k => let ⟨⟨old, isE⟩, isI, ne⟩ := st; ⟨⟨old, k e (by simp) _ isE⟩, isI.at fun o q => k it (by simp) o q, ne⟩
  item := by
    intro X hP hw hK calm i pins s σ H E I hf st go
    subst hP hw hK
    obtain ⟨⟨old, isE⟩, isI, ne⟩ := st
    obtain ⟨xs, x, tup, at_⟩ := go
    obtain ⟨its, rv, isT, _⟩ := I.tuple tup
    obtain ⟨u, hu, ru⟩ := rv.get at_
    have lt : i < its.toArray.size := by simpa using (List.getElem?_eq_some_iff.mp hu).1
    have el : e < s.heap.objs.size := Heap.lt_size isE
    have il : it < s.heap.objs.size := by obtain ⟨_, q, _⟩ := isI; exact Heap.lt_size q
    have quiet : X.A.in1.handled = none := by simpa using I.ok.hd calm
    refine wpAny_pyNext_enum_itemD (Draws.tuple quiet it a hai its.toArray) isE ⟨isI, isT⟩ lt ne (by simpa using ⟨ne, fun q => hae q.symm⟩) fun v h' tk hv out st' pair size kept => ?_
    refine ⟨_, rfl, wpAny_letOwnedTupleGo_enum (s := { s with heap := h', toks := tk + 1 }) out fun h2 isE2 same => ?_⟩
    obtain rfl : v = u := by
      have z : its.toArray[i]? = some u := by simpa using hu
      rw [z] at hv
      exact (Option.some.inj hv).symm
    have pair2 : h2.get? s.heap.objs.size = some { cls := .type "tuple", data := .seq #[.int i tk, v] } := (same.2 _ (Nat.ne_of_gt el)).trans pair
    have new : ObjOk X.prog X.w (upd H s.heap.objs.size (.tup [.int (i : Nat), x])) h2 s.heap.objs.size (.tup [.int (i : Nat), x]) := ⟨by show 2 ≤ sizeLine; decide, [.int i tk, v], .cons ⟨_, rfl⟩ (.cons ru .nil), ⟨_, pair2, rfl, _, rfl⟩⟩
    have J : Inv X pins σ (upd H s.heap.objs.size (.tup [.int (i : Nat), x])) { s with heap := h2, toks := tk + 1 } :=
      I.turnedNew (ch := [e, it]) (fun b o hb q => (same.2 b (fun z => hb (by simp [z]))).trans (kept b o (fun z => hb (by simp [z])) (fun z => hb (by simp [z])) q)) hf (Nat.le_refl _) new
    refine ⟨.ref s.heap.objs.size, _, J, rfl, ⟨_, x, rfl, I.hok.fresh (Nat.le_refl _), rfl, fun ys hy => by rw [I.tuple_inj hy tup]; exact at_⟩, ⟨⟨v, ?_⟩, st'.1.at fun o q => (same.2 it (Ne.symm ne)).trans q, ne⟩, fun b hb => ?_⟩
    · have step : ((i + 1 : Nat) : Int) = (i : Int) + 1 := by omega
      rw [step]
      exact isE2
    · have bl : b < s.heap.objs.size := by
        rcases (by simpa using hb : b = e ∨ b = it) with rfl | rfl
        · exact el
        · exact il
      rw [upd_ne (Nat.ne_of_lt bl)]
      exact (hf b hb).1
  done := by
    intro X hP hw hK calm i pins s σ H E I hf st stop
    subst hP hw hK
    obtain ⟨⟨old, isE⟩, isI, ne⟩ := st
    obtain ⟨xs, tup, rfl⟩ := stop
    obtain ⟨its, rv, isT, _⟩ := I.tuple tup
    obtain ⟨f0, f1, f2, f3, f4, f5⟩ := hf it (by simp)
    have quiet : X.A.in1.handled = none := by simpa using I.ok.hd calm
    have size : xs.length = its.toArray.size := by rw [List.size_toArray, rv.length]
    rw [size] at isE isI
    exact wpAny_pyNext_enum_endD (Draws.tuple quiet it a hai its.toArray) isE ⟨isI, isT⟩ fun h' ext => ⟨rfl, I.turned (t' := s.toks) (fun b o hb q => ext b o hb q) f0 f1 f3 f4 f5⟩
  self := fun A i s Q E st h => let ⟨⟨_, isE⟩, _⟩ := st; wpAny_pyIter_enum isE h

/-- enumerate(e): a list, a tuple -/
def iEnumA (K : PySem.W.Frag) (ta : TA) : TI := fun σ H R => ta σ H fun vs H1 => ∃ a xs, vs = [.ref a] ∧ ((SqL K H1 a xs ∧ R (Ite K a) H1) ∨ (SqT K H1 a xs ∧ R (IteT K a) H1))
theorem pi_enumA {X : Cx} {e : Expr} {ta : TA} {p pos tpos : Pos} {elts : List Expr} {kk : Nat} (hg : Gl X "enumerate") (hm : X.mg "enumerate" = none) (ha : PA X [e] ta) (hs : starEach [e] X.env = [(false, eval e X.env)] := by rfl) : PI X (.Tuple elts kk tpos) (.Call (.Name "enumerate" p) [e] [] pos) (iEnumA X.K ta) := by
  refine ⟨fun pins s σ H R I hyp => ?_⟩
  refine Call_ (ld_blt I hg hm boot_enumerate (PyProof.Rows.callWith_type1 (thn (ha.run pos pins s σ H _ I hyp) fun us s1 ⟨vs, H1, I1, r1, q1⟩ => ?_) hs rfl))
  obtain ⟨a, xs, rfl, q1⟩ := q1
  cases r1 with
  | cons r rr =>
    cases rr
    cases r
    have isNew : ∀ b, b ∈ [s1.heap.objs.size + 1, s1.heap.objs.size] → FpOk X pins H1 b := fun b hb => by
      have le : s1.heap.objs.size ≤ b := by
        rcases (by simpa using hb : b = s1.heap.objs.size + 1 ∨ b = s1.heap.objs.size) with rfl | rfl
        · exact Nat.le_add_right _ _
        · exact Nat.le_refl _
      exact I1.fpOk le (I1.hok.fresh le)
    rcases q1 with ⟨tup, q⟩ | ⟨tup, q⟩
    · obtain ⟨its, rv, isL, _⟩ := I1.list tup
      refine call_enumerate_list isL.isList fun h' isE isI _ kept => wpAny_pyIter_enum isE ?_
      exact ⟨s1.heap.objs.size + 1, [s1.heap.objs.size + 1, s1.heap.objs.size], _, _, H1, rfl, I1.kept (t' := s1.toks) kept, turn_enum a (s1.heap.objs.size + 1) s1.heap.objs.size, ⟨⟨.none, isE⟩, isI, Nat.succ_ne_self _⟩, isNew, q⟩
    · obtain ⟨its, rv, isT, _⟩ := I1.tuple tup
      have isT' : s1.heap.IsTuple a its.toArray := isT
      have lt : a < s1.heap.objs.size := by obtain ⟨o, at_, _⟩ := isT'; exact Heap.lt_size at_
      refine enumT_call isT' fun h' isE isI kept => wpAny_pyIter_enum isE ?_
      exact ⟨s1.heap.objs.size + 1, [s1.heap.objs.size + 1, s1.heap.objs.size], _, _, H1, rfl, I1.kept (t' := s1.toks) kept, turn_enumT (Nat.ne_of_lt (Nat.lt_succ_of_lt lt)) (Nat.ne_of_lt lt), ⟨⟨.none, isE⟩, isI, Nat.succ_ne_self _⟩, isNew, q⟩
section
variable {X : Cx} {W : WX} {Z : Ext} {CL : Calls} {ow0 : List Addr} {Hb : Hp} {K : PySem.W.Frag}
/-- a new pair is data -/
theorem pair_new {ow : List Addr} {H : Hp} {T : Addr} {x y : V} {dx dy : D} (hT : H T = none) (no : ∀ a ∈ ow, ∃ o, NT o ∧ H a = some o) (hx : Dt K (hid ow H) x dx) (hy : Dt K (hid ow H) y dy) : Dt K (hid ow (upd H T (.tup [x, y]))) (.ref T) (.tuple [dx, dy]) := by
  have m : T ∉ ow := fun m => by
    obtain ⟨o, _, e⟩ := no T m
    rw [hT] at e
    cases e
  have le : Le (hid ow H) (hid ow (upd H T (.tup [x, y]))) := fun b o q => by
    obtain ⟨m, q, t⟩ := hid_some q
    exact hid_of m (Le.new hT b o q) t
  exact .tup (.inl (.of (hid_of m upd_same nt_tup))) (.cons (Dt.mono le hx) (.cons (Dt.mono le hy) .nil))
/-- places and items -/
def enumD (ds : List D) : List D := ds.zipIdx.map fun p => .tuple [.int (p.2 : Nat), p.1]
theorem enumD_at {ds : List D} {i : Nat} {d : D} (h : (enumD ds)[i]? = some d) : ∃ x, ds[i]? = some x ∧ d = .tuple [.int (i : Nat), x] := by
  unfold enumD at h
  rw [List.getElem?_map, List.getElem?_zipIdx] at h
  cases q : ds[i]? with
  | none => rw [q] at h; cases h
  | some x =>
    rw [q] at h
    cases h
    exact ⟨x, rfl, by simp⟩
theorem enumD_len (ds : List D) : (enumD ds).length = ds.length := by simp [enumD]
theorem itD_enumL {S1 : Hp} {a : Addr} {vs : List V} {ds : List D} (h : S1 a = some (.lst vs)) (ha : DtAll K S1 vs ds) : ItD K S1 (Ite K a) (enumD ds) where
  go := fun i H e hi => ⟨vs, vs[i]'(by rw [ha.length, ← enumD_len]; exact hi), .inl (.of (e _ _ h)), by rw [enumD_len] at hi; simp [ha.length, hi]⟩
  stop := fun H e => ⟨vs, .inl (.of (e _ _ h)), by rw [ha.length, enumD_len]; exact Nat.le_refl _⟩
  yld := fun i H v H' ow d no e hd y => by
    obtain ⟨T, x, rfl, hT, rfl, hx⟩ := y
    have hx := hx vs (.inl (.of ((e.trans hid_le) _ _ h)))
    obtain ⟨d1, h1, rfl⟩ := enumD_at hd
    obtain ⟨d2, h2, h3⟩ := ha.get' hx
    rw [h1] at h2
    cases h2
    exact ⟨Le.new hT, pair_new hT no (.int _) (Dt.mono e h3)⟩
theorem itD_enumT {S1 : Hp} {a : Addr} {vs : List V} {ds : List D} (h : SqT K S1 a vs) (ha : DtAll K S1 vs ds) : ItD K S1 (IteT K a) (enumD ds) where
  go := fun i H e hi => ⟨vs, vs[i]'(by rw [ha.length, ← enumD_len]; exact hi), e.sqt h, by rw [enumD_len] at hi; simp [ha.length, hi]⟩
  stop := fun H e => ⟨vs, e.sqt h, by rw [ha.length, enumD_len]⟩
  yld := fun i H v H' ow d no e hd y => by
    obtain ⟨T, x, rfl, hT, rfl, hx⟩ := y
    have hx := hx vs ((e.trans hid_le).sqt h)
    obtain ⟨d1, h1, rfl⟩ := enumD_at hd
    obtain ⟨d2, h2, h3⟩ := ha.get' hx
    rw [h1] at h2
    cases h2
    exact ⟨Le.new hT, pair_new hT no (.int _) (Dt.mono e h3)⟩
def wEnum (w : WA) : WI := fun ρ P Ex => w ρ (fun ys => match ys with
  | [y] => match y.kp with
    | some (.list ds) => P (enumD ds)
    | some (.tuple ds) => P (enumD ds)
    | _ => False
  | _ => False) Ex
theorem sim_enum {e : Expr} {wa : WA} {p pos tpos : Pos} {elts : List Expr} {kk : Nat} (hg : Gl X "enumerate") (hm : X.mg "enumerate" = none) (h : SimA X W Z CL ow0 Hb [e] wa) (hs : starEach [e] X.env = [(false, eval e X.env)] := by rfl) : SimI X W Z CL ow0 Hb (.Tuple elts kk tpos) (.Call (.Name "enumerate" p) [e] [] pos) (wEnum wa) := by
  intro S ρ σ H ow P Ex R r w g b
  refine PIat.of (pi_enumA hg hm PAat.pa hs) (h S ρ σ H ow _ Ex _ r w (fun ys vs H' p e z q => ?_) b)
  split at p
  · cases q with
    | cons q1 q2 =>
      cases q2
      split at p
      · rename_i ds ed
        cases q1.kp ed with
        | lst h1 h2 => exact ⟨_, _, rfl, .inl ⟨.inl (.of (hid_le _ _ h1)), g _ _ H' p e z (itD_enumL h1 h2) fun hh => by rw [enumD_len, ← h2.length]; exact lst_len (hid_le _ _ h1) hh⟩⟩
      · rename_i ds ed
        cases q1.kp ed with
        | tup h1 h2 => exact ⟨_, _, rfl, .inr ⟨hid_le.sqt h1, g _ _ H' p e z (itD_enumT h1 h2) fun hh => by rw [enumD_len, ← h2.length]; exact sqt_len (hid_le.sqt h1) hh⟩⟩
      · exact p.elim
  · exact p.elim
/-- two rows in pairs -/
def zipD (as bs : List D) : List D := (as.zip bs).map fun p => .tuple [p.1, p.2]
theorem zipD_at {as bs : List D} {i : Nat} {d : D} (h : (zipD as bs)[i]? = some d) : ∃ x y, as[i]? = some x ∧ bs[i]? = some y ∧ d = .tuple [x, y] := by
  unfold zipD at h
  rw [List.getElem?_map] at h
  cases q : (as.zip bs)[i]? with
  | none => rw [q] at h; cases h
  | some xy =>
    rw [q] at h
    cases h
    obtain ⟨h1, h2⟩ := List.getElem?_zip_eq_some.mp q
    exact ⟨_, _, h1, h2, rfl⟩
theorem zipD_len (as bs : List D) : (zipD as bs).length = min as.length bs.length := by simp [zipD]
theorem itD_zipL {S1 : Hp} {a b : Addr} {vs us : List V} {as bs : List D} (h : S1 a = some (.lst vs)) (ha : DtAll K S1 vs as) (h' : S1 b = some (.lst us)) (hb : DtAll K S1 us bs) : ItD K S1 (Itz K a b) (zipD as bs) where
  go := fun i H e hi => by
    rw [zipD_len] at hi
    exact ⟨vs, us, vs[i]'(by rw [ha.length]; omega), us[i]'(by rw [hb.length]; omega), .inl (.of (e _ _ h)), .inl (.of (e _ _ h')), by simp [ha.length], by simp [hb.length]⟩
  stop := fun H e => ⟨vs, us, .inl (.of (e _ _ h)), .inl (.of (e _ _ h')), by rw [ha.length, hb.length, zipD_len]; omega⟩
  yld := fun i H v H' ow d no e hd y => by
    obtain ⟨T, x, y, rfl, hT, rfl, hx, hy⟩ := y
    have hx := hx vs (.inl (.of ((e.trans hid_le) _ _ h)))
    have hy := hy us (.inl (.of ((e.trans hid_le) _ _ h')))
    obtain ⟨d1, d2, h1, h2, rfl⟩ := zipD_at hd
    obtain ⟨d3, h3, h4⟩ := ha.get' hx
    obtain ⟨d5, h5, h6⟩ := hb.get' hy
    rw [h1] at h3
    rw [h2] at h5
    cases h3
    cases h5
    exact ⟨Le.new hT, pair_new hT no (Dt.mono e h4) (Dt.mono e h6)⟩
theorem itD_zipT {S1 : Hp} {a b : Addr} {vs us : List V} {as bs : List D} (h : SqT K S1 a vs) (ha : DtAll K S1 vs as) (h' : SqT K S1 b us) (hb : DtAll K S1 us bs) : ItD K S1 (RZ.ItzT K a b) (zipD as bs) where
  go := fun i H e hi => by
    rw [zipD_len] at hi
    exact ⟨vs, us, vs[i]'(by rw [ha.length]; omega), us[i]'(by rw [hb.length]; omega), e.sqt h, e.sqt h', by simp [ha.length], by simp [hb.length]⟩
  stop := fun H e => ⟨vs, us, e.sqt h, e.sqt h', by rw [ha.length, hb.length, zipD_len]; omega⟩
  yld := fun i H v H' ow d no e hd y => by
    obtain ⟨T, x, y, rfl, hT, rfl, hx, hy⟩ := y
    have hx := hx vs ((e.trans hid_le).sqt h)
    have hy := hy us ((e.trans hid_le).sqt h')
    obtain ⟨d1, d2, h1, h2, rfl⟩ := zipD_at hd
    obtain ⟨d3, h3, h4⟩ := ha.get' hx
    obtain ⟨d5, h5, h6⟩ := hb.get' hy
    rw [h1] at h3
    rw [h2] at h5
    cases h3
    cases h5
    exact ⟨Le.new hT, pair_new hT no (Dt.mono e h4) (Dt.mono e h6)⟩
def wZip (w : WA) : WI := fun ρ P Ex => w ρ (fun ys => match ys with
  | [x, y] => match x.kp, y.kp with
    | some (.list as), some (.list bs) => P (zipD as bs)
    | some (.tuple as), some (.tuple bs) => P (zipD as bs)
    | _, _ => False
  | _ => False) Ex
theorem sim_zip {e e2 : Expr} {wa : WA} {p pos tpos : Pos} {elts : List Expr} {kk : Nat} (hg : Gl X "zip") (hm : X.mg "zip" = none) (h : SimA X W Z CL ow0 Hb [e, e2] wa) (hs : starEach [e, e2] X.env = (false, eval e X.env) :: starEach [e2] X.env := by rfl) (hpl : (backTo pos (starEach [e2] X.env)).any (·.1) = false := by rfl) :
    SimI X W Z CL ow0 Hb (.Tuple elts kk tpos) (.Call (.Name "zip" p) [e, e2] [] pos) (wZip wa) := by
  intro S ρ σ H ow P Ex R r w g b
  refine PIat.of (RZ.pi_zipA hg hm PAat.pa hs hpl) (h S ρ σ H ow _ Ex _ r w (fun ys vs H' p e z q => ?_) b)
  split at p
  · cases q with
    | cons q1 q2 =>
      cases q2 with
      | cons q2 q3 =>
        cases q3
        split at p
        · rename_i as bs ea eb
          cases q1.kp ea with
          | lst h1 h2 =>
            cases q2.kp eb with
            | lst h3 h4 => exact ⟨_, _, _, _, rfl, .inl ⟨.inl (.of (hid_le _ _ h1)), .inl (.of (hid_le _ _ h3)), g _ _ H' p e z (itD_zipL h1 h2 h3 h4) fun hh => by rw [zipD_len, ← h2.length]; have := lst_len (hid_le _ _ h1) hh; omega⟩⟩
        · rename_i as bs ea eb
          cases q1.kp ea with
          | tup h1 h2 =>
            cases q2.kp eb with
            | tup h3 h4 => exact ⟨_, _, _, _, rfl, .inr ⟨hid_le.sqt h1, hid_le.sqt h3, g _ _ H' p e z (itD_zipT h1 h2 h3 h4) fun hh => by rw [zipD_len, ← h2.length]; have := sqt_len (hid_le.sqt h1) hh; omega⟩⟩
        · exact p.elim
  · exact p.elim
end
end Pd

/-! Pd21: sorted of a list that reads as data; str of an int; texts of a row. -/
namespace Pd
open PySem PySem.Spec PyProof.Rows L2
theorem each_zip {H : Hp} {K : PySem.W.Frag} : ∀ {vs : List V} {us : List Value} {ds : List D}, Vals vs us → DtAll K H vs ds → PySem.W.EachIs (fun (u : Value) (b : V × D) => RelV b.1 u) us (vs.zip ds)
  | _, _, _, .nil, .nil => .nil
  | _, _, _, .cons r t, .cons h a => .cons r (each_zip t a)
theorem each_vals : ∀ {us : List Value} {bs : List (V × D)}, PySem.W.EachIs (fun (u : Value) (b : V × D) => RelV b.1 u) us bs → Vals (bs.map (·.1)) us
  | _, _, .nil => .nil
  | _, _, .cons r t => .cons r (each_vals t)
theorem all_pairs {H : Hp} {K : PySem.W.Frag} : ∀ {bs : List (V × D)}, (∀ b ∈ bs, Dt K H b.1 b.2) → DtAll K H (bs.map (·.1)) (bs.map (·.2))
  | [], _ => .nil
  | b :: bs, h => .cons (h b List.mem_cons_self) (all_pairs fun c m => h c (List.mem_cons_of_mem _ m))
theorem zip_dt {H : Hp} {K : PySem.W.Frag} : ∀ {vs : List V} {ds : List D}, DtAll K H vs ds → ∀ b ∈ vs.zip ds, Dt K H b.1 b.2
  | _, _, .nil, b, m => by simp at m
  | _, _, .cons h t, b, m => by
    rw [List.zip_cons_cons] at m
    rcases List.mem_cons.mp m with rfl | m
    · exact h
    · exact zip_dt t b m
theorem zip_snd {H : Hp} {K : PySem.W.Frag} : ∀ {vs : List V} {ds : List D}, DtAll K H vs ds → (vs.zip ds).map (·.2) = ds
  | _, _, .nil => rfl
  | _, _, .cons h t => by rw [List.zip_cons_cons, List.map_cons, zip_snd t]
def srt (xs : List D) : List D := xs.mergeSort (PySem.W.dataLe false id)
theorem srt_snd (bs : List (V × D)) : (bs.mergeSort (PySem.W.dataLe false Prod.snd)).map (·.2) = srt (bs.map (·.2)) :=
  List.map_mergeSort fun a _ b _ => rfl
section
open PySem.W PySem.Calls
/-- sorted(a tuple): a new list -/
theorem sorted_tup {β : Type} {prog : Program} {w : World} {A : Around} {E : Value → Shared → Prop} {s : Shared} {R : Value → β → Prop} {enc : β → D} {l : Addr} {o : Obj} {n : Nat} {vs : List Value} {bs : List β} {Q : Value → Shared → Prop} (ho : s.heap.get? l = some o) (hc : o.cls = .type "tuple") (hd : o.data = .seq vs.toArray n)
    (e : EachIs R vs bs) (er : EachIs (fun v b => ∃ as, Reads s.heap v (enc b) as) vs bs)
    (hal : AllAlike (bs.map enc)) (hk : Sortable (bs.map enc)) (hL : bs.length ≤ sizeLine) (hu : ∀ b, b ∈ bs → A.units + 2 + (enc b).depth < cLine)
    (h : ∀ (h1 h' : Heap) (out : List Value) (c : Nat), (∀ b o, s.heap.get? b = some o → h1.get? b = some o) → (∀ b o, h1.get? b = some o → h'.get? b = some o) → h'.get? h1.objs.size = some (seqObj "list" out.toArray c) → out.length = bs.length → EachIs R out (bs.mergeSort (dataLe false enc)) → Q (.ref h1.objs.size) { s with heap := h' }) :
    wpAny (model prog w) A (call (.builtin "sorted") [.ref l]) Q E s := by
  have vl : vs.length ≤ sizeLine := by rw [e.length]; exact hL
  refine call_function_entry_kw kind_sorted plain_sorted entry_sorted (args_sorted1 _) ?_
  unfold Builtin.«sorted»
  refine wpAny_bind (m := checkCount "sorted" 1 1 _) (wpAny_pure ?_)
  refine wpAny_bind (wpAny_collect_seq l (.inr rfl) ho hc hd (fun h1 k1 => ?_) (by simpa using vl))
  have ev : vs.toArray.toList = vs := List.toList_toArray
  rw [ev]
  refine wpAny_bind (wpAny_newList ?_ vl)
  have at1 : (h1.push (seqObj "list" vs.toArray 0)).get? h1.objs.size = some (seqObj "list" vs.toArray 0) := Heap.get?_push_size _ rfl
  have k2 : ∀ b o', s.heap.get? b = some o' → (h1.push (seqObj "list" vs.toArray 0)).get? b = some o' := fun b o' z => Heap.get?_push_of_some _ (k1 b o' z)
  have low : ∀ b o', s.heap.get? b = some o' → b ≠ h1.objs.size := fun b o' z => Nat.ne_of_lt (Heap.lt_size (k1 b o' z))
  have er' : EachIs (fun v b => ∃ as, Reads (sortingHeap (h1.push (seqObj "list" vs.toArray 0)) h1.objs.size vs) v (enc b) as) vs bs := er.mono fun _ _ ⟨as, r⟩ => ⟨as, Reads.keeps (fun b o' z => sortingHeap_old (low b o' z) (k2 b o' z)) r⟩
  refine wpAny_bind (wpAny_holding (wpAny_call_entry_kw slot_list_sort ⟨_, at1, rfl⟩ entry_list_sort ?body (args_list_sort _)))
  case body =>
    refine wpAny_mono (list_sort_vals (κ := dataKind (sortingHeap (h1.push (seqObj "list" vs.toArray 0)) h1.objs.size vs) (bs.map enc)) (P := fun f s' => f = .done (.ret .none) ∧ Q (.ref h1.objs.size) s') at1 (SortsAt.data (s := { s with heap := sortingHeap (h1.push (seqObj "list" vs.toArray 0)) h1.objs.size vs }) (each_map (R := fun v d => ∃ as, Reads (sortingHeap (h1.push (seqObj "list" vs.toArray 0)) h1.objs.size vs) v d as) enc er') hal hk (bound_map fun b hb => ?_)) vl ⟨rfl, ?_⟩) (fun f s' hf => ?_) fun _ _ z => z
    · exact hu b hb
    · obtain ⟨c, hc'⟩ := sortedHeap_at (out := (sortVals (dataKind (sortingHeap (h1.push (seqObj "list" vs.toArray 0)) h1.objs.size vs) (bs.map enc)) false vs vs).toArray) at1
      refine h h1 _ _ c k1 (fun b o' z => ?_) hc' (by rw [sortVals_length false rfl]; exact e.length) (sortVals_data false e er' hal)
      have z2 := Heap.get?_push_of_some (seqObj "list" vs.toArray 0) z
      rw [sortedHeap_old (Nat.ne_of_lt (Heap.lt_size z)) (Heap.lt_size z2)]
      exact z2
    · obtain ⟨rfl, hq⟩ := hf
      exact ⟨_, rfl, wpAny_pure ⟨_, rfl, hq⟩⟩
end
section
variable {X : Cx} {Z : Ext} {CL : Calls}
theorem cd_sortedT (hu : X.A.units + 200 < cLine) {pins : List (Addr × Obj)} {s : Shared} {σ : L2.St} {H : Hp} {p : Addr} {ws : List V} {xs : List D} {ow : List Addr} {Q : Value → Shared → Prop} (I : Inv X pins σ H s) (hp : SqT X.K H p ws) (ha : DtAll X.K (hid ow H) ws xs)
    (al : PySem.W.AllAlike xs) (so : PySem.W.Sortable xs) (dp : ∀ d ∈ xs, d.depth ≤ 100)
    (hQ : ∀ (q : Addr) (s' : Shared) (us : List V), H q = none → Inv X pins σ (upd H q (.lst us)) s' → DtAll X.K (hid ow H) us (srt xs) → Q (.ref q) s') : wpAny (model X.prog X.w) X.A (call (.builtin "sorted") [.ref p]) Q X.xe s := by
  obtain ⟨its, r1, tp, hz⟩ := I.tuple hp
  have en : (ws.zip xs).map Prod.snd = xs := zip_snd ha
  have al' : PySem.W.AllAlike ((ws.zip xs).map Prod.snd) := by rw [en]; exact al
  have so' : PySem.W.Sortable ((ws.zip xs).map Prod.snd) := by rw [en]; exact so
  have len : (ws.zip xs).length = xs.length := by rw [List.length_zip, ha.length, Nat.min_self]
  have fits : xs.length ≤ sizeLine := by rw [← ha.length]; exact hz
  have reads : PySem.W.EachIs (fun v (b : V × D) => ∃ as, Reads s.heap v b.2 as) its (ws.zip xs) := by
    have z := each_zip r1 ha
    have q := zip_dt ha
    clear hz tp r1 ha en al so len fits dp hp al' so' hQ
    generalize ws.zip xs = bs at z q ⊢
    induction z with
    | nil => exact .nil
    | cons h t ih => exact .cons (Dp.reads I _ _ _ (Dt.mono hid_le (q _ List.mem_cons_self)).dp h) (ih fun b m => q b (List.mem_cons_of_mem _ m))
  obtain ⟨o, n, ho, hc, hd⟩ : ∃ o n, s.heap.get? p = some o ∧ o.cls = .type "tuple" ∧ o.data = .seq its.toArray n := by
    obtain ⟨o, q1, q2, n, q3⟩ := tp
    exact ⟨o, n, q1, q2, q3⟩
  refine sorted_tup (enc := Prod.snd) ho hc hd (each_zip r1 ha) reads al' so' (by rw [len]; exact fits) (fun b hb => ?_) fun h1 h' out c k1 k2 at_ ol oe => ?_
  · have := dp b.2 (by rw [← en]; exact List.mem_map.mpr ⟨b, hb, rfl⟩)
    omega
  · have I1 : Inv X pins σ H { s with heap := h1 } := I.kept (t' := s.toks) k1
    have hn : H h1.objs.size = none := I1.hok.fresh (Nat.le_refl _)
    have perm := List.mergeSort_perm (ws.zip xs) (PySem.W.dataLe false Prod.snd)
    have rel := each_vals oe
    have J : Inv X pins σ (upd H h1.objs.size (.lst (((ws.zip xs).mergeSort (PySem.W.dataLe false Prod.snd)).map (·.1)))) { s with heap := h' } :=
      I1.laid (s := { s with heap := h1 }) (t' := s.toks) k2 (Nat.le_refl _) ⟨by rw [List.length_map, perm.length_eq, len]; exact fits, out, c, rel, at_⟩
    refine hQ _ _ _ hn J ?_
    have e2 : srt xs = ((ws.zip xs).mergeSort (PySem.W.dataLe false Prod.snd)).map (·.2) := (congrArg srt en.symm).trans (srt_snd _).symm
    rw [e2]
    exact all_pairs fun b m => zip_dt ha b (perm.mem_iff.mp m)
end
section
variable {X : Cx} {Z : Ext} {CL : Calls}
/-- sorted(a list) -/
def bSorted : OpN := op1 fun d P => match d with
  | .list xs => (PySem.W.AllAlike xs ∧ PySem.W.Sortable xs ∧ (∀ d ∈ xs, d.depth ≤ 100)) ∧ P (.own (srt xs))
  | .tuple xs => (PySem.W.AllAlike xs ∧ PySem.W.Sortable xs ∧ (∀ d ∈ xs, d.depth ≤ 100)) ∧ P (.own (srt xs))
  | _ => False
theorem cd_sorted (hu : X.A.units + 200 < cLine) : CallR X (.builtin "sorted") (rC CL Z X.K bSorted) := by
  intro pins s σ H vs us Q I rv hyp
  obtain ⟨ow, H0, ys, P, gr, hs, w, g⟩ := hyp
  obtain ⟨v, y, d, rfl, hy, ed, w⟩ := one hs w
  split at w
  · rename_i xs
    obtain ⟨⟨w1, w2, w3⟩, w⟩ := w
    obtain ⟨p, ws, rfl, hp, ha⟩ := hy.list ed
    rw [Vals.ref1 rv]
    obtain ⟨its, r1, pl, hz⟩ := I.list (.inl (.of hp))
    have en : (ws.zip xs).map Prod.snd = xs := zip_snd ha
    have al : PySem.W.AllAlike ((ws.zip xs).map Prod.snd) := by rw [en]; exact w1
    have so : PySem.W.Sortable ((ws.zip xs).map Prod.snd) := by rw [en]; exact w2
    have len : (ws.zip xs).length = xs.length := by rw [List.length_zip, ha.length, Nat.min_self]
    have fits : xs.length ≤ sizeLine := by rw [← ha.length]; exact lst_len hp ⟨_, I.hok⟩
    have reads : PySem.W.EachIs (fun v (b : V × D) => ∃ as, Reads s.heap v b.2 as) its (ws.zip xs) := by
      have z := each_zip r1 ha
      have q := zip_dt ha
      clear hz pl r1 ha en al so len fits w1 w2 w3 w hp hy ed hs
      generalize ws.zip xs = bs at z q ⊢
      induction z with
      | nil => exact .nil
      | cons h t ih => exact .cons (Dp.reads I _ _ _ (Dt.mono hid_le (q _ List.mem_cons_self)).dp h) (ih fun b m => q b (List.mem_cons_of_mem _ m))
    refine PySem.W.sorted_data (enc := Prod.snd) (vs := its) pl.isList (each_zip r1 ha) reads al so (by rw [len]; exact fits) (fun b hb => ?_) fun out ol oe => ?_
    · have := w3 b.2 (by rw [← en]; exact List.mem_map.mpr ⟨b, hb, rfl⟩)
      omega
    · obtain ⟨c, hc⟩ := sortedAll_at s.heap its out.toArray
      have keep : ∀ b o, s.heap.get? b = some o → (sortedAll s.heap its out.toArray).get? b = some o := fun b o e => sortedAll_old e
      have fresh : s.heap.objs.size ≤ s.heap.objs.size + 1 := Nat.le_succ _
      have hn : H (s.heap.objs.size + 1) = none := I.hok.fresh fresh
      have perm := List.mergeSort_perm (ws.zip xs) (PySem.W.dataLe false Prod.snd)
      have rel := each_vals oe
      have J : Inv X pins σ (upd H (s.heap.objs.size + 1) (.lst (((ws.zip xs).mergeSort (PySem.W.dataLe false Prod.snd)).map (·.1)))) { s with heap := sortedAll s.heap its out.toArray } :=
        I.laid (t' := s.toks) keep fresh ⟨by rw [List.length_map, perm.length_eq, len]; exact fits, out, c, rel, hc⟩
      refine ⟨.ref _, _, J, rfl, g.lst w gr hn ?_⟩
      have e2 : srt xs = ((ws.zip xs).mergeSort (PySem.W.dataLe false Prod.snd)).map (·.2) := (congrArg srt en.symm).trans (srt_snd _).symm
      rw [e2]
      exact all_pairs fun b m => zip_dt ha b (perm.mem_iff.mp m)
  · rename_i xs
    obtain ⟨⟨w1, w2, w3⟩, w⟩ := w
    obtain ⟨p, ws, rfl, hp, ha⟩ := hy.tuple ed
    rw [Vals.ref1 rv]
    exact cd_sortedT hu I (hid_le.sqt hp) ha w1 w2 w3 fun q s' us hn J h => ⟨.ref q, _, J, rfl, g.lst w gr hn h⟩
  · exact w.elim
end
end Pd

/-! Pd22: texts of ints, f-strings, list(range(..)), methods that only read, a tuple so many times. -/
namespace Pd
open PySem PySem.Spec PyProof.Rows L2
section
variable {X : Cx} {W : WX} {Z : Ext} {CL : Calls} {ow0 : List Addr} {Hb : Hp}
def bStr : OpN := op1 fun d P => match d with
  | .int i => i.natAbs.log2 < 1920 ∧ P (.d (.str (toString i)))
  | .str z => P (.d (.str z))
  | _ => False
theorem cd_str : CallR X (.type "str") (rC CL Z X.K bStr) := by
  intro pins s σ H vs us Q I rv hyp
  obtain ⟨ow, H0, ys, P, gr, hs, w, g⟩ := hyp
  obtain ⟨v, y, d, rfl, hy, ed, w⟩ := one hs w
  split at w
  · rw [hy.int ed] at rv
    exact call_str_int pins s σ H _ us Q I rv ⟨_, rfl, w.1, g.sc w.2 gr.ext fun _ => .str _⟩
  · rw [hy.str ed] at rv
    exact SkE.call_str_str pins s σ H _ us Q I rv ⟨_, rfl, g.sc w gr.ext fun _ => .str _⟩
  · exact w.elim
/-! ### f'..' -/
def wFmt (w : WE) : WE := fun ρ P Ex => w ρ (fun y => match y.rd with
  | some (.str z) => z.length ≤ sizeLine ∧ P (.d (.str z))
  | some (.int i) => i.natAbs.log2 < 1920 ∧ P (.d (.str (toString i)))
  | _ => False) Ex
theorem sim_fmt {e : Expr} {we : WE} {pos : Pos} (h : SimE X W Z CL ow0 Hb e we) : SimE X W Z CL ow0 Hb (.FormattedValue e (-1) none pos) (wFmt we) := by
  intro S ρ σ H ow P Ex Q r w g bd
  refine PEat.of (pe_fmt PEat.pe) (h S ρ σ H ow _ Ex _ r w (fun y v H1 p e1 z1 q => ?_) bd)
  have g1 := g.step e1 r.gr.fpo
  split at p
  · rename_i z ez
    exact .inl ⟨z, q.str ez, p.1, g1.sc p.2 z1 fun _ => .str _⟩
  · rename_i i ei
    exact .inr ⟨i, q.int ei, p.1, g1.sc p.2 z1 fun _ => .str _⟩
  · exact p.elim
abbrev WJ := Str → Ev → (Str → Prop) → (Xn → Prop) → Prop
def wJnil : WJ := fun acc _ P _ => P acc
def wJcons (w : WE) (ws : WJ) : WJ := fun acc ρ P Ex => w ρ (fun y => match y with
  | .d (.str z) => (acc ++ z).length ≤ sizeLine ∧ ws (acc ++ z) ρ P Ex
  | _ => False) Ex
/-- the parts of an f-string -/
inductive SimJ (X : Cx) (W : WX) (Z : Ext) (CL : Calls) (ow0 : List Addr) (Hb : Hp) : List Expr → WJ → Prop
  | nil : SimJ X W Z CL ow0 Hb [] wJnil
  | cons {e : Expr} {es : List Expr} {w : WE} {ws : WJ} : SimE X W Z CL ow0 Hb e w → SimJ X W Z CL ow0 Hb es ws → SimJ X W Z CL ow0 Hb (e :: es) (wJcons w ws)
theorem SimJ.pj {es : List Expr} {ws : WJ} (h : SimJ X W Z CL ow0 Hb es ws) : PJ X es (es.map fun e => PEat X e) := by
  induction h with
  | nil => exact .nil
  | cons _ _ ih => exact .cons PEat.pe ih
theorem SimJ.run {es : List Expr} {ws : WJ} (h : SimJ X W Z CL ow0 Hb es ws) : ∀ {S : Hp} {ρ : Ev} {σ : L2.St} {H : Hp} {ow : List Addr} {P : Str → Prop} {Ex : Xn → Prop} {Q : Str → Hp → Prop} {acc : Str}, Rel CL Z X.K ow0 Hb S ρ σ H ow → ws acc ρ P Ex →
    (∀ z H', P z → SameBut (fp Z) H H' → RZ Z H' → Q z H') → Bd Z X.K ow X.mg W σ H Ex → tJs (es.map fun e => PEat X e) acc σ H Q := by
  induction h with
  | nil =>
    intro S ρ σ H ow P Ex Q acc r w g b
    exact g acc H w (.refl _ _) r.gr.ext
  | cons he hs ih =>
    intro S ρ σ H ow P Ex Q acc r w g b
    refine he S ρ σ H ow _ Ex _ r w (fun y v H1 p e1 z1 q => ?_) b
    split at p
    · rename_i z
      cases (q : Dt X.K (hid ow H1) v (.str z))
      exact ⟨z, rfl, p.1, ih (r.step e1 z1) p.2 (fun z H' p' e' z' => g z H' p' (e1.trans e') z') (b.step e1)⟩
    · exact p.elim
def wJoined (ws : WJ) : WE := fun ρ P Ex => ws Str.empty ρ (fun z => P (.d (.str z))) Ex
theorem sim_joined {v1 v2 : Expr} {rest : List Expr} {ws : WJ} {pos : Pos} (h : SimJ X W Z CL ow0 Hb (v1 :: v2 :: rest) ws) : SimE X W Z CL ow0 Hb (.JoinedStr (v1 :: v2 :: rest) pos) (wJoined ws) := by
  intro S ρ σ H ow P Ex Q r w g b
  exact PEat.of (pe_joined h.pj) (h.run r w (fun z H' p e z' => (g.step e r.gr.fpo).sc p z' fun _ => .str _) b)
theorem sim_joined1 {e : Expr} {we : WE} {pos : Pos} (h : SimE X W Z CL ow0 Hb e we) : SimE X W Z CL ow0 Hb (.JoinedStr [e] pos) we := fun S ρ σ H ow P Ex Q r w g b => PEat.of (pe_joined1 PEat.pe) (h S ρ σ H ow P Ex Q r w g b)
/-! ### list(range(..)), tuple(range(..)) -/
def wLR1 (tup : Bool) (w : WE) : WE := fun ρ P Ex => w ρ (fun y => match y.rd with
  | some (.int n) => RgOk 0 n ∧ P (if tup = true then .d (.tuple (countD 0 n.toNat)) else .own (countD 0 n.toNat))
  | _ => False) Ex
theorem rg_dt {K : PySem.W.Frag} {H : Hp} (a b : Int) : DtAll K H (rgV a b) (countD a (b - a).toNat) := by
  unfold rgV countD
  induction List.range (b - a).toNat with
  | nil => exact .nil
  | cons i r ih => exact .cons (.int _) ih
theorem sim_listRg1 {e : Expr} {we : WE} {p p2 q pos : Pos} (hc : X.calm = true) (h : SimE X W Z CL ow0 Hb e we) (hg : Gl X "list") (hm : X.mg "list" = none) (hg2 : Gl X "range") (hm2 : X.mg "range" = none) (na : starEach [e] X.env = (false, eval e X.env) :: starEach [] X.env := by rfl) :
    SimE X W Z CL ow0 Hb (.Call (.Name "list" p) [.Call (.Name "range" p2) [e] [] q] [] pos) (wLR1 false we) := by
  intro S ρ σ H ow P Ex Q r w g b
  refine PEat.of (pe_listRg hc hg hm (prg_1 hg2 hm2 PEat.pe na)) (h S ρ σ H ow _ Ex _ r w (fun y v H1 p e1 z1 q => ?_) b)
  split at p
  · rename_i n en
    refine ⟨n, q.int en, p.1, fun l hl => (g.step e1 r.gr.fpo).lst p.2 (r.gr.step e1 z1) hl ?_⟩
    have := rg_dt (K := X.K) (H := hid ow H1) 0 n
    rwa [Int.sub_zero] at this
  · exact p.elim
theorem sim_tupRg1 {e : Expr} {we : WE} {p p2 q pos : Pos} (hc : X.calm = true) (h : SimE X W Z CL ow0 Hb e we) (hg : Gl X "tuple") (hm : X.mg "tuple" = none) (hg2 : Gl X "range") (hm2 : X.mg "range" = none) (na : starEach [e] X.env = (false, eval e X.env) :: starEach [] X.env := by rfl) :
    SimE X W Z CL ow0 Hb (.Call (.Name "tuple" p) [.Call (.Name "range" p2) [e] [] q] [] pos) (wLR1 true we) := by
  intro S ρ σ H ow P Ex Q r w g b
  refine PEat.of (pe_tupRg hc hg hm (prg_1 hg2 hm2 PEat.pe na)) (h S ρ σ H ow _ Ex _ r w (fun y v H1 p e1 z1 q => ?_) b)
  split at p
  · rename_i n en
    refine ⟨n, q.int en, p.1, fun l hl => (g.step e1 r.gr.fpo).tup p.2 (r.gr.step e1 z1) hl ?_⟩
    have := rg_dt (K := X.K) (H := hid ow H1) 0 n
    rwa [Int.sub_zero] at this
  · exact p.elim
/-! ### methods that only read -/
abbrev OpP := D → List D → (Val → Prop) → Prop
def reads : List Val → Option (List D)
  | [] => some []
  | y :: ys => match y.rd, reads ys with
    | some d, some ds => some (d :: ds)
    | _, _ => none
theorem RVs.reads {K : PySem.W.Frag} {ow : List Addr} {H0 H : Hp} : ∀ {vs : List V} {ys : List Val} {ds : List D}, RVs Z CL K ow H0 H vs ys → reads ys = some ds → DtAll K H vs ds
  | _, _, _, .nil, e => by cases e; exact .nil
  | _, _ :: ys, ds, .cons (y := y) h t, e => by
    unfold Pd.reads at e
    cases e1 : y.rd with
    | none => rw [e1] at e; cases e
    | some d =>
      cases e2 : Pd.reads ys with
      | none => rw [e1, e2] at e; cases e
      | some es =>
        rw [e1, e2] at e
        cases e
        exact .cons (h.rd e1) (RVs.reads t e2)
def tyD : D → String
  | .str _ => "str"
  | .int _ => "int"
  | .list _ => "list"
  | _ => ""
theorem tyD_ok {K : PySem.W.Frag} {H : Hp} {x : V} {d : D} {T : String} (h : Dt K H x d) (e : tyD d = T) (n : T ≠ "") : tyV K T x H := by
  cases h with
  | int i => exact e.symm
  | str z => exact e.symm
  | lst h1 h2 => exact .inl ⟨e.symm, _, .inl (.of h1)⟩
  | non => exact absurd e.symm n
  | bl b => exact absurd e.symm n
  | tup h1 h2 => exact absurd e.symm n
def wPm (T : String) (op : OpP) (wo : WE) (wa : WA) : WE := fun ρ P Ex => wo ρ (fun x => match x.rd with
  | some d => tyD d = T ∧ wa ρ (fun ys => match reads ys with
    | some ds => op d ds P
    | none => False) Ex
  | none => False) Ex
/-- what a reading method does of data -/
def POk (X : Cx) (Z : Ext) (CL : Calls) (r : V → List V → Hp → VK → Prop) (op : OpP) : Prop := ∀ (ow : List Addr) (H : Hp) (x : V) (us : List V) (d : D) (ds : List D) (P : Val → Prop) (Q : VK), Gr Z ow H → Dt X.K H x d → DtAll X.K H us ds → op d ds P → Gd CL Z X.K ow H P Q → r x us H Q
theorem sim_pm {T : String} {op : OpP} {id : String} {r : V → List V → Hp → VK → Prop} (hm : MtR X id r) (hop : POk X Z CL r op) (pa : PlainAttrs T) {o e : Expr} {es : List Expr} {name : Str} {apos cpos : Pos} {wo : WE} {wa : WA} (slot : Slot T name id) (hty : typeOf (.builtin id) = pure (.type "method_descriptor")) (hT : T ≠ "")
    (ho : SimE X W Z CL ow0 Hb o wo) (ha : SimA X W Z CL ow0 Hb (e :: es) wa)
    (hbase : attributeBase o name X.env (eval o X.env) = eval o X.env := by rfl)
    (hfew : ((backTo cpos (starEach (e :: es) X.env)).all (fun x => !x.1) && (backToKw cpos (keywordEach [] X.env)).all (fun x => x.1.isSome) && decide ((e :: es).length + ([] : List Keyword).length + (if ([] : List Keyword).isEmpty then 0 else 1) < 30)) = true := by rfl)
    (hline : (apos.endLine == cpos.line) = true := by rfl) (hs : starEach (e :: es) X.env = (false, eval e X.env) :: starEach es X.env := by rfl) (hplain : (backTo cpos (starEach es X.env)).any (·.1) = false := by rfl) :
    SimE X W Z CL ow0 Hb (.Call (.Attribute o name apos) (e :: es) [] cpos) (wPm T op wo wa) := by
  intro S ρ σ H ow P Ex Q rl w g b
  refine PEat.of (pe_bm pa slot hty hm PEat.pe PAat.pa hbase hfew hline hs hplain) ?_
  refine ho S ρ σ H ow _ Ex _ rl w (fun y v H1 p1 e1 z1 q1 => ?_) b
  split at p1
  · rename_i d ed
    refine ⟨tyD_ok (q1.rd ed) p1.1 hT, ?_⟩
    refine ha S ρ σ H1 ow _ Ex _ (rl.step e1 z1) p1.2 (fun ys us H2 p2 e2 z2 q2 => ?_) (b.step e1)
    split at p2
    · rename_i ds eds
      exact hop ow H2 v us d ds P Q (rl.gr.step (e1.trans e2) z2) ((q1.stay e2 rl.gr.fpo).rd ed) (q2.reads eds) p2 (g.step (e1.trans e2) rl.gr.fpo)
    · exact p2.elim
  · exact p1.elim
/-- the place of the first item that is equal -/
def firstAt (xs : List D) (y : D) : Option Nat := xs.findIdx? fun z => PyData.eqv z y
def pIndex : OpP := fun d ds P => match d, ds with
  | .list xs, [y] => (SeqAt.shaped (.list xs) = true ∧ SeqAt.shaped y = true) ∧ match firstAt xs y with
    | some j => P (.d (.int (j : Nat)))
    | none => False
  | _, _ => False
theorem po_index : POk X Z CL (rIndexD X.K) pIndex := by
  intro ow H x us d ds P Q gr hx hus w g
  unfold pIndex at w
  split at w
  · rename_i xs y
    cases hus with
    | cons hy hn =>
      cases hn
      cases hx with
      | lst h1 h2 =>
        obtain ⟨⟨w1, w2⟩, w⟩ := w
        split at w
        · rename_i j ej
          unfold firstAt at ej
          obtain ⟨hj, e1, e2⟩ := List.findIdx?_eq_some_iff_getElem.mp ej
          refine ⟨_, _, y, xs, j, xs[j], rfl, rfl, (Dt.lst h1 h2).dp, hy.dp, w1, w2, by simp [hj], e1, fun m z' hm hz => ?_, g.sc w gr.ext fun _ => .int _⟩
          obtain ⟨hl, rfl⟩ := List.getElem?_eq_some_iff.mp hz
          simpa using e2 m hm
        · exact w.elim
  · exact w.elim
def strsOf : List D → Option (List Str)
  | [] => some []
  | .str z :: r => (strsOf r).map (z :: ·)
  | _ :: _ => none
theorem strsOf_eq : ∀ {xs : List D} {ns : List Str}, strsOf xs = some ns → xs = ns.map .str
  | [], _, e => by cases e; rfl
  | .str i :: r, ns, e => by
    unfold strsOf at e
    cases q : strsOf r with
    | none => rw [q] at e; cases e
    | some ms =>
      rw [q] at e
      cases e
      rw [strsOf_eq q]
      rfl
  | .none :: _, _, e => by cases e
  | .bool _ :: _, _, e => by cases e
  | .int _ :: _, _, e => by cases e
  | .list _ :: _, _, e => by cases e
  | .tuple _ :: _, _, e => by cases e
  | .dict _ :: _, _, e => by cases e
theorem strsOf_map : ∀ ns : List Str, strsOf (ns.map .str) = some ns
  | [] => rfl
  | n :: ns => by
    show (strsOf (ns.map .str)).map (n :: ·) = _
    rw [strsOf_map ns]
    rfl
/-- sep.join(texts) -/
def pJoin : OpP := fun d ds P => match d, ds with
  | .str a, [.list xs] => match strsOf xs with
    | some ys => (ys.map (·.length)).sum + ys.length * a.length ≤ 16777216 ∧ P (.d (.str (Txt.join a ys)))
    | none => False
  | .str a, [.tuple xs] => match strsOf xs with
    | some ys => (ys.map (·.length)).sum + ys.length * a.length ≤ 16777216 ∧ P (.d (.str (Txt.join a ys)))
    | none => False
  | _, _ => False
theorem po_join : POk X Z CL (fun x xs H Q => ∃ a p, ∃ ys : List Str, x = .str a ∧ xs = [.ref p] ∧ (SqL X.K H p (ys.map V.str) ∨ SqT X.K H p (ys.map V.str)) ∧ (ys.map (·.length)).sum + ys.length * a.length ≤ 16777216 ∧ Q (.str (Txt.join a ys)) H) pJoin := by
  intro ow H x us d ds P Q gr hx hus w g
  unfold pJoin at w
  split at w
  · rename_i a xs
    cases hx
    cases hus with
    | cons hy hn =>
      cases hn
      cases hy with
      | lst h1 h2 =>
        split at w
        · rename_i ys ey
          rw [strsOf_eq ey] at h2
          rw [h2.strs] at h1
          exact ⟨a, _, ys, rfl, rfl, .inl (.inl (.of h1)), w.1, g.sc w.2 gr.ext fun _ => .str _⟩
        · exact w.elim
  · rename_i a xs
    cases hx
    cases hus with
    | cons hy hn =>
      cases hn
      cases hy with
      | tup h1 h2 =>
        split at w
        · rename_i ys ey
          rw [strsOf_eq ey] at h2
          rw [h2.strs] at h1
          exact ⟨a, _, ys, rfl, rfl, .inr h1, w.1, g.sc w.2 gr.ext fun _ => .str _⟩
        · exact w.elim
  · exact w.elim
/-- text.split(sep) -/
def pSplit : OpP := fun d ds P => match d, ds with
  | .str a, [.str b] => ((b.length == 0) = false ∧ a.length + 2 ≤ sizeLine) ∧ P (.own ((Txt.split a b).map .str))
  | _, _ => False
theorem po_split : POk X Z CL (fun x xs H Q => ∃ a b, x = .str a ∧ xs = [.str b] ∧ (b.length == 0) = false ∧ a.length + 2 ≤ sizeLine ∧ rNewStrs (Txt.split a b) H Q) pSplit := by
  intro ow H x us d ds P Q gr hx hus w g
  unfold pSplit at w
  split at w
  · rename_i a b
    cases hx
    cases hus with
    | cons hy hn =>
      cases hn
      cases hy
      exact ⟨a, b, rfl, rfl, w.1.1, w.1.2, fun p hp => g.lst w.2 gr hp (DtAll.ofStrs _)⟩
  · exact w.elim
/-- a tuple so many times -/
def opRepT : Op2 := fun a b P => match a.rd, b.rd with
  | some (.tuple xs), some (.int k) => (xs ≠ [] ∧ 2 ≤ k ∧ k ≤ 1000 ∧ xs.length ≤ 1000) ∧ P (.d (.tuple (List.replicate k.toNat xs).flatten))
  | _, _ => False
theorem or_repT : OpR X (binaryOp .Mult) (rD CL Z X.K opRepT) := by
  intro pins s σ H x y v u Q I rx ry hyp
  obtain ⟨ow, H0, a, b, P, gr, ha, hb, w, g⟩ := hyp
  unfold opRepT at w
  split at w
  · rename_i xs k e1 e2
    obtain ⟨p, vs, rfl, h1, a1⟩ := ha.tuple e1
    rw [hb.int e2] at ry
    refine op_repT pins s σ H _ _ v u Q I rx ry ⟨p, k, vs, rfl, rfl, hid_le.sqt h1, fun z => ?_, w.1.2.1, w.1.2.2.1, by rw [a1.length]; exact w.1.2.2.2, fun l hl => g.tup w.2 gr hl (a1.rep _)⟩
    have := a1.length
    rw [z] at this
    exact w.1.1 (List.length_eq_zero_iff.mp this.symm)
  · exact w.elim
end
end Pd

/-! Pd23: comprehensions of two walks. -/
namespace Pd
open PySem PySem.Spec PyProof.Rows L2
def lcIn (b1 : WB) (tt1 : WT) (we : WE) (ρ1 : Ev) (K : List D → Prop) : List D → List D → Prop
  | [], acc => K acc
  | d :: ds, acc => b1 ρ1 d fun ρ' => tt1 ρ' (fun c => if c = true then we ρ' (fun y => match y.kp with
      | some e => acc.length < sizeLine ∧ lcIn b1 tt1 we ρ1 K ds (acc ++ [e])
      | none => False) (fun _ => False) else lcIn b1 tt1 we ρ1 K ds acc) (fun _ => False)
def lcOut (b : WB) (tt : WT) (wi1 : WI) (b1 : WB) (tt1 : WT) (we : WE) (vs1 : List Nat) (ρ0 : Ev) (P : List D → Prop) : List D → List D → Prop
  | [], acc => P acc
  | d :: ds, acc => b ρ0 d fun ρ' => tt ρ' (fun c => if c = true then wi1 ρ' (fun ds1 => lcIn b1 tt1 we (wipeE ρ' vs1) (fun acc' => lcOut b tt wi1 b1 tt1 we vs1 ρ0 P ds acc') ds1 acc) (fun _ => False) else lcOut b tt wi1 b1 tt1 we vs1 ρ0 P ds acc) (fun _ => False)
def wLc2 (wi : WI) (b : WB) (tt : WT) (wi1 : WI) (b1 : WB) (tt1 : WT) (we : WE) (vs vs1 : List Nat) : WE := fun ρ P Ex => wi ρ (fun ds => lcOut b tt wi1 b1 tt1 we vs1 (wipeE ρ vs) (fun acc => P (.own acc)) ds []) Ex
section
variable {X : Cx} {W : WX} {Z : Ext} {CL : Calls} {ow0 : List Addr} {Hb : Hp}
/-- the new list L, tracked, holds acc; nothing else of this def's is at L -/
structure Acc (CL : Calls) (Z : Ext) (K : PySem.W.Frag) (ow0 : List Addr) (Hb : Hp) (S : Hp) (ρ : Ev) (σ : L2.St) (H1 : Hp) (L : Addr) (ow : List Addr) (H : Hp) (acc : List D) : Prop where
  relL : RelL CL Z K ow0 Hb S ρ σ H (L :: ow) L
  at_ : ∃ us, H L = some (.lst us) ∧ DtAll K (hid (L :: ow) H) us acc
  same : SameBut (fp Z) H1 H
theorem Acc.rel {K : PySem.W.Frag} {S H1 H : Hp} {ρ : Ev} {σ : L2.St} {L : Addr} {ow : List Addr} {acc : List D} (a : Acc CL Z K ow0 Hb S ρ σ H1 L ow H acc) : Rel CL Z K ow0 Hb S ρ σ H (L :: ow) := a.relL.r
theorem Acc.step {S H1 H H' : Hp} {ρ : Ev} {σ : L2.St} {L : Addr} {ow : List Addr} {acc : List D} (a : Acc CL Z X.K ow0 Hb S ρ σ H1 L ow H acc) (hL : L ∉ fp Z) (e : SameBut (fp Z) H H') (z : RZ Z H') : Acc CL Z X.K ow0 Hb S ρ σ H1 L ow H' acc := by
  obtain ⟨us, h1, h2⟩ := a.at_
  exact ⟨a.relL.step e z, ⟨us, e L _ hL nt_lst h1, DtAll.mono (hid_mono e a.rel.gr.fpo fun _ m => .inl m) h2⟩, a.same.trans e⟩
theorem lc2_sound {tg iter : Expr} {scope : Scope} {wi wi1 : WI} {b b1 : WB} {is is1 : List Nat} {tt tt1 : WT} {we : WE} {vs vs1 : List Nat} (hi : SimI X W Z CL ow0 Hb tg iter wi) (his : ∀ i ∈ is, i ∈ vs) (his1 : ∀ i ∈ is1, i ∈ vs1) (g0 : Gr Z ow0 Hb)
    {g g1 : TG} {t t1 : TT} {te : TE} {ti : TI}
    (hg : ∀ {S : Hp} {ρ : Ev} {σ : L2.St} {H : Hp} {ow : List Addr} {d : D} {v : V} {k : Ev → Prop} {Q : L2.St → Hp → Prop}, Rel CL Z X.K ow0 Hb S ρ σ H ow → Dt X.K (hid ow H) v d → b ρ d k → (∀ ρ' σ', k ρ' → Rel CL Z X.K ow0 Hb S ρ' σ' H ow → OnlyE is ρ σ ρ' σ' → Q σ' H) → g v σ H Q)
    (ht : ∀ {S : Hp} {ρ : Ev} {σ : L2.St} {H : Hp} {ow : List Addr} {P : Bool → Prop} {Q : Bool → Hp → Prop}, Rel CL Z X.K ow0 Hb S ρ σ H ow → tt ρ P (fun _ => False) → GdT Z H P Q → t σ H Q)
    (hi1 : ∀ {S : Hp} {ρ : Ev} {σ : L2.St} {H : Hp} {ow : List Addr} {P : List D → Prop} {R : It → Hp → Prop}, Rel CL Z X.K ow0 Hb S ρ σ H ow → wi1 ρ P (fun _ => False) → (∀ ds J H', P ds → SameBut (fp Z) H H' → RZ Z H' → ItD X.K (hid ow H') J ds → R J H') → ti σ H R)
    (hg1 : ∀ {S : Hp} {ρ : Ev} {σ : L2.St} {H : Hp} {ow : List Addr} {d : D} {v : V} {k : Ev → Prop} {Q : L2.St → Hp → Prop}, Rel CL Z X.K ow0 Hb S ρ σ H ow → Dt X.K (hid ow H) v d → b1 ρ d k → (∀ ρ' σ', k ρ' → Rel CL Z X.K ow0 Hb S ρ' σ' H ow → OnlyE is1 ρ σ ρ' σ' → Q σ' H) → g1 v σ H Q)
    (ht1 : ∀ {S : Hp} {ρ : Ev} {σ : L2.St} {H : Hp} {ow : List Addr} {P : Bool → Prop} {Q : Bool → Hp → Prop}, Rel CL Z X.K ow0 Hb S ρ σ H ow → tt1 ρ P (fun _ => False) → GdT Z H P Q → t1 σ H Q)
    (he : ∀ {S : Hp} {ρ : Ev} {σ : L2.St} {H : Hp} {ow : List Addr} {P : Val → Prop} {Q : VK}, Rel CL Z X.K ow0 Hb S ρ σ H ow → we ρ P (fun _ => False) → Gd CL Z X.K ow H P Q → te σ H Q)
    {S : Hp} {ρ : Ev} {σ : L2.St} {H : Hp} {ow : List Addr} {P : Val → Prop} {Ex : Xn → Prop} {Q : VK} (r : Rel CL Z X.K ow0 Hb S ρ σ H ow) (w : wLc2 wi b tt wi1 b1 tt1 we vs vs1 ρ P Ex) (gd : Gd CL Z X.K ow H P Q) (bd : Bd Z X.K ow X.mg W σ H Ex) :
    tLc2 (fun σ H R => PIat X tg iter σ H fun J H' => Held X H' → R J H') g t ti g1 t1 te vs vs1 σ H Q := by
  refine hi S ρ σ H ow _ _ _ r w (fun ds J H1 p e z hJ _ => fun _ => ?_) bd
  intro L hL
  have r1 := (r.step e z).remark (S' := hid ow H1) (.refl _)
  have hLz : L ∉ fp Z := fun m => r1.gr.no (.of hL) (r1.gr.fpo L m)
  have hLb : New Hb L := r1.sb.free hLz (.of hL)
  have hLow : L ∉ ow := r1.gr.no (.of hL)
  have a0 : Acc CL Z X.K ow0 Hb (hid ow H1) ρ σ H1 L ow (upd H1 L (.lst [])) [] := ⟨r1.moreL (SameBut.new hL) (z.le (Le.new hL)) (.of hL) ⟨_, nt_lst, upd_same⟩, ⟨[], upd_same, .nil⟩, SameBut.new hL⟩
  refine ⟨fun i m H => m = ds.length - i ∧ i ≤ ds.length ∧ ∃ acc, lcOut b tt wi1 b1 tt1 we vs1 (wipeE ρ vs) (fun acc => P (.own acc)) (ds.drop i) acc ∧ Acc CL Z X.K ow0 Hb (hid ow H1) ρ σ H1 L ow H acc, ⟨ds.length, by simp, Nat.zero_le _, [], p, a0⟩, ?_⟩
  rintro i m H2 ⟨rfl, hi2, acc, p2, a2⟩
  have le : Le (hid ow H1) H2 := a2.rel.mark.trans hid_le
  by_cases hlt : i < ds.length
  · refine .inr ⟨hJ.go i H2 le hlt, fun H => ∃ acc, lcOut b tt wi1 b1 tt1 we vs1 (wipeE ρ vs) (fun acc => P (.own acc)) (ds.drop (i + 1)) acc ∧ Acc CL Z X.K ow0 Hb (hid ow H1) ρ σ H1 L ow H acc, fun H' q => ⟨ds.length - (i + 1), by omega, rfl, hlt, q⟩, fun x H' y => ?_⟩
    have hd : ds[i]? = some ds[i] := by simp [hlt]
    obtain ⟨l1, l2⟩ := hJ.yld i H2 x H' (L :: ow) _ a2.rel.gr.isS a2.rel.mark hd y
    rw [List.drop_eq_getElem_cons hlt] at p2
    have a3 := a2.step hLz (.of_le l1) (a2.rel.gr.ext.le l1)
    refine hg (a3.rel.wiped vs) l2 p2 fun ρ5 σ5 p5 r5 o5 => ⟨by rw [(o5.1.mono his).wipe, wipe_wipe], ?_⟩
    refine ht r5 p5 fun c H6 p6 e6 z6 => ?_
    have a6 := a3.step hLz e6 z6
    cases c with
    | false =>
      rw [if_neg (by decide)] at p6 ⊢
      exact ⟨acc, p6, a6⟩
    | true =>
      rw [if_pos rfl] at p6 ⊢
      refine hi1 (r5.step e6 z6) p6 fun ds1 J1 H7 p7 e7 z7 hJ1 => ?_
      have a7 := a6.step hLz e7 z7
      have r7 : RelL CL Z X.K ow0 Hb (hid (L :: ow) H7) ρ5 σ5 H7 (L :: ow) L := ((((a3.relL.wiped vs).bound r5 o5).step e6 z6).step e7 z7).remark (.refl _)
      refine ⟨fun j k H => k = ds1.length - j ∧ j ≤ ds1.length ∧ ∃ acc, lcIn b1 tt1 we (wipeE ρ5 vs1) (fun acc' => lcOut b tt wi1 b1 tt1 we vs1 (wipeE ρ vs) (fun acc => P (.own acc)) (ds.drop (i + 1)) acc') (ds1.drop j) acc ∧ Acc CL Z X.K ow0 Hb (hid ow H1) ρ σ H1 L ow H acc ∧ RelL CL Z X.K ow0 Hb (hid (L :: ow) H7) ρ5 σ5 H (L :: ow) L, ⟨ds1.length, by simp, Nat.zero_le _, acc, p7, a7, r7⟩, ?_⟩
      rintro j k H8 ⟨rfl, hj2, acc8, p8, a8, r8⟩
      have le8 : Le (hid (L :: ow) H7) H8 := r8.r.mark.trans hid_le
      by_cases hlt1 : j < ds1.length
      · refine .inr ⟨hJ1.go j H8 le8 hlt1, fun H => ∃ acc, lcIn b1 tt1 we (wipeE ρ5 vs1) (fun acc' => lcOut b tt wi1 b1 tt1 we vs1 (wipeE ρ vs) (fun acc => P (.own acc)) (ds.drop (i + 1)) acc') (ds1.drop (j + 1)) acc ∧ Acc CL Z X.K ow0 Hb (hid ow H1) ρ σ H1 L ow H acc ∧ RelL CL Z X.K ow0 Hb (hid (L :: ow) H7) ρ5 σ5 H (L :: ow) L, fun H' q => ⟨ds1.length - (j + 1), by omega, rfl, hlt1, q⟩, fun x1 H9 y1 => ?_⟩
        have hd1 : ds1[j]? = some ds1[j] := by simp [hlt1]
        obtain ⟨l3, l4⟩ := hJ1.yld j H8 x1 H9 (L :: ow) _ r8.r.gr.isS r8.r.mark hd1 y1
        rw [List.drop_eq_getElem_cons hlt1] at p8
        have a9 := a8.step hLz (.of_le l3) (a8.rel.gr.ext.le l3)
        have r9 := r8.step (.of_le l3) (r8.r.gr.ext.le l3)
        refine hg1 (r9.r.wiped vs1) l4 p8 fun ρ10 σ10 p10 r10 o10 => ⟨by rw [(o10.1.mono his1).wipe, wipe_wipe], ?_⟩
        refine ht1 r10 p10 fun c H11 p11 e11 z11 => ?_
        have a11 := a9.step hLz e11 z11
        have r11 := r9.step e11 z11
        cases c with
        | false =>
          rw [if_neg (by decide)] at p11 ⊢
          exact ⟨acc8, p11, a11, r11⟩
        | true =>
          rw [if_pos rfl] at p11 ⊢
          refine he (r10.step e11 z11) p11 fun v y12 H12 p12 e12 z12 q12 => ?_
          split at p12
          · rename_i e8 ed
            obtain ⟨p12, p13⟩ := p12
            have a12 := a11.step hLz e12 z12
            have r12 := r11.step e12 z12
            obtain ⟨us, hus, hau⟩ := a12.at_
            refine ⟨us, hus, by rw [hau.length]; exact p12, acc8 ++ [e8], p13, ⟨a12.relL.put (vs := us ++ [y12]) hus List.mem_cons_self hLz hLb, ⟨us ++ [y12], upd_same, ?_⟩, fun a u n t q => ?_⟩, r12.put (vs := us ++ [y12]) hus List.mem_cons_self hLz hLb⟩
            · rw [hid_upd List.mem_cons_self]
              exact hau.append (.cons (q12.kp ed) .nil)
            · have ne : a ≠ L := fun e => by rw [e, hL] at q; cases q
              rw [upd_ne ne]
              exact a12.same a u n t q
          · exact p12.elim
      · have ej : j = ds1.length := by omega
        subst ej
        rw [List.drop_length] at p8
        exact .inl ⟨hJ1.stop H8 le8, acc8, p8, a8⟩
  · have ei : i = ds.length := by omega
    subst ei
    rw [List.drop_length] at p2
    obtain ⟨us, hus, hau⟩ := a2.at_
    refine .inl ⟨hJ.stop H2 le, ?_⟩
    exact gd (.own acc) _ H2 p2 (e.trans a2.same) a2.rel.gr.ext ⟨L, us, rfl, e.free hLz (.of hL), hLow, hus, hau⟩
theorem sim_lc2 {tg iter tg1 iter1 elt : Expr} {ifs ifs1 : List Expr} {scope : Scope} {own : List (Str × Nat)} {pos : Pos} {wi wi1 : WI} {b b1 : WB} {is is1 vs1 : List Nat} {tt tt1 : WT} {we : WE} (hc : X.calm = true) (hN : X.N.Nodup) (g0 : Gr Z ow0 Hb) (hi : SimI X W Z CL ow0 Hb tg iter wi) (ok : BlkOk X.N X.env.scope scope own) (his : ∀ i ∈ is, i ∈ own.map (·.2)) (his1 : ∀ i ∈ is1, i ∈ vs1) (hv : ∀ i ∈ vs1, i ∈ own.map (·.2))
    (hg : InBlk X scope fun Y => SimB Y Z CL ow0 Hb tg b is) (ht : InBlk X scope fun Y => SimTs Y W0 Z CL ow0 Hb ifs tt) (hi1 : InBlk X scope fun Y => SimI Y W0 Z CL ow0 Hb tg1 iter1 wi1) (hg1 : InBlk X scope fun Y => SimB Y Z CL ow0 Hb tg1 b1 is1) (ht1 : InBlk X scope fun Y => SimTs Y W0 Z CL ow0 Hb ifs1 tt1) (he : InBlk X scope fun Y => SimE Y W0 Z CL ow0 Hb elt we)
    (hs : ∀ x, foldedSetIterable iter X.env x = pure x := by intro _; rfl) (hs1 : ∀ env x, foldedSetIterable iter1 env x = pure x := by intro _ _; rfl) : SimE X W Z CL ow0 Hb (.ListComp elt [⟨tg, iter, ifs, 0⟩, ⟨tg1, iter1, ifs1, 0⟩] scope pos) (wLc2 wi b tt wi1 b1 tt1 we (own.map (·.2)) vs1) := by
  intro S ρ σ H ow P Ex Q r w g bd
  refine PEat.of (pe_lc2 (g := fun v σ H Q => InBlk X scope fun Y => PGat Y tg v σ H Q) (tt := fun σ H Q => InBlk X scope fun Y => PTsat Y ifs σ H Q) (wi1 := fun σ H R => InBlk X scope fun Y => PIat Y tg1 iter1 σ H fun J H' => Held Y H' → R J H') (g1 := fun v σ H Q => InBlk X scope fun Y => PGat Y tg1 v σ H Q) (tt1 := fun σ H Q => InBlk X scope fun Y => PTsat Y ifs1 σ H Q) (te := fun σ H Q => InBlk X scope fun Y => PEat Y elt σ H Q) hc hN PIat.pi ok hv
    (fun s H C cl fp => ⟨fun pins s' σ H' v u Q I rv h => (h s H C cl fp).go pins s' u I rv⟩) (fun s H C cl fp => ⟨fun pins s' σ H' Q I h => (h s H C cl fp).go pins s' I⟩) (fun s H C cl fp => ⟨fun pins s' σ H' R I h => PIat.pi.run pins s' σ H' R I (h s H C cl fp)⟩) (fun s H C cl fp => ⟨fun pins s' σ H' v u Q I rv h => (h s H C cl fp).go pins s' u I rv⟩) (fun s H C cl fp => ⟨fun pins s' σ H' Q I h => (h s H C cl fp).go pins s' I⟩) (fun s H C cl fp => ⟨fun pins s' σ H' Q I h => (h s H C cl fp).go pins s' I⟩) hs hs1) ?_
  refine lc2_sound (X := X) (W := W) (Z := Z) (CL := CL) (ow0 := ow0) (Hb := Hb) (scope := scope) hi his his1 g0 (fun r h w g s H C cl fp => ?_) (fun r w g s H C cl fp => ?_) (fun r w g s H C cl fp => ?_) (fun r h w g s H C cl fp => ?_) (fun r w g s H C cl fp => ?_) (fun r w g s H C cl fp => ?_) r w g bd
  · exact hg s H C cl fp _ _ _ _ _ _ _ _ _ r h w g
  · exact ht s H C cl fp _ _ _ _ _ _ _ _ r w g fun _ _ _ _ z => z.elim
  · exact hi1 s H C cl fp _ _ _ _ _ _ _ _ r w (fun ds J H' p e z j _ _ => g ds J H' p e z j) fun _ _ _ _ z => z.elim
  · exact hg1 s H C cl fp _ _ _ _ _ _ _ _ _ r h w g
  · exact ht1 s H C cl fp _ _ _ _ _ _ _ _ r w g fun _ _ _ _ z => z.elim
  · exact he s H C cl fp _ _ _ _ _ _ _ _ r w g fun _ _ _ _ z => z.elim
end
end Pd

namespace Pd
open PySem PySem.Spec PyProof.Rows L2
/-- the ints i, i + c, .. (n of them) -/
def stepV (i c : Int) (n : Nat) : List V := (List.range n).map fun j => V.int (i + (j : Nat) * c)
def stepD (i c : Int) (n : Nat) : List D := (List.range n).map fun j => .int (i + (j : Nat) * c)
theorem stepD_len (i c : Int) (n : Nat) : (stepD i c n).length = n := by simp [stepD]
theorem step_dt {K : PySem.W.Frag} {H : Hp} (i c : Int) (n : Nat) : DtAll K H (stepV i c n) (stepD i c n) := by
  unfold stepV stepD
  induction List.range n with
  | nil => exact .nil
  | cons i r ih => exact .cons (.int _) ih
theorem vals_step {i c : Int} {n : Nat} {acc : Array Value} (h : ItemsOf (fun j v => ∃ t, v = .int (i + j * c) t) acc n) : Vals (stepV i c n) acc.toList := by
  have e : acc.toList.length = n := by rw [Array.length_toList]; exact h.1
  unfold stepV
  rw [← e]
  refine vals_of_get acc.toList _ fun j u hj => ?_
  obtain ⟨t, rfl⟩ := h.2 j u (by rw [← hj, Array.getElem?_toList])
  exact ⟨t, rfl⟩
section
variable {X : Cx} {W : WX} {Z : Ext} {CL : Calls} {ow0 : List Addr} {Hb : Hp}
theorem pe_tupRg3 {a b c : Expr} {ta : TA} {p p2 q pos : Pos} (hc : X.calm = true) (hg : Gl X "tuple") (hm : X.mg "tuple" = none) (hg2 : Gl X "range") (hm2 : X.mg "range" = none) (ha : PA X [a, b, c] ta)
    (hs : starEach [a, b, c] X.env = (false, eval a X.env) :: starEach [b, c] X.env) (hpl : (backTo q (starEach [b, c] X.env)).any (·.1) = false)
    (na : starEach [(.Call (.Name "range" p2) [a, b, c] [] q : Expr)] X.env = (false, eval (.Call (.Name "range" p2) [a, b, c] [] q) X.env) :: starEach [] X.env) :
    PE X (.Call (.Name "tuple" p) [.Call (.Name "range" p2) [a, b, c] [] q] [] pos) (fun σ H Q => ta σ H fun vs H1 => ∃ (i j c : Int) (n : Nat), vs = [.int i, .int j, .int c] ∧ RgC i j c n ∧ n ≤ 2 ^ 24 ∧ ∀ q, H1 q = none → Q (.ref q) (upd H1 q (.tup (stepV i c n)))) := by
  refine ⟨fun pins s σ H Q I h => ?_⟩
  refine Call_ (ld_blt I hg hm boot_tuple (PyProof.Rows.callWith_type1 (args_cons (Q := fun vs s' => wpAny (model X.prog X.w) X.A (call (.type "tuple") vs) (EP X pins σ Q) X.xe s') ?_ na) na))
  refine Call_ (ld_blt I hg2 hm2 boot_range (PyProof.Rows.callWith_type1 (thn (ha.run q pins s σ H _ I h) fun us s1 ⟨vs, H1, I1, r1, q1⟩ => ?_) hs hpl))
  obtain ⟨i, j, k, n, e, ⟨c0, c1, c2, c3⟩, hn, q⟩ := q1
  subst e
  cases r1 with
  | cons r rr =>
    cases rr with
    | cons r' rr =>
      cases rr with
      | cons r'' rr =>
        cases rr
        obtain ⟨t, rfl⟩ := r
        obtain ⟨t', rfl⟩ := r'
        obtain ⟨t'', rfl⟩ := r''
        refine call_range_3 c0 ?_ (.inl (PyProof.noPylong_small c1))
        refine args_nil ?_
        have I2 : Inv X pins σ H1 { s1 with heap := s1.heap.push { cls := .type "range", data := .fields #[.int i t, .int j t', .int k t''] } } := I1.kept (t' := s1.toks) fun b o e => Heap.get?_push_of_some _ e
        refine call_tuple_range (n := n) (I2.ok.hd hc) (IsRange.new ..) c2 c3 hn fun h' tk acc hk hi => ?_
        have I3 : Inv X pins σ H1 { s1 with heap := h', toks := tk } := I2.kept hk
        refine ⟨.ref h'.objs.size, upd H1 h'.objs.size (.tup (stepV i k n)), I3.laid (t' := tk) (fun c o e => Heap.get?_push_of_some _ e) (Nat.le_refl _) (show ObjOk X.prog X.w _ _ _ (.tup (stepV i k n)) from ⟨?_, acc.toList, vals_step hi, ?_⟩), rfl, q _ (I3.hok.fresh (Nat.le_refl _))⟩
        · simp only [stepV, List.length_map, List.length_range]; rw [sizeLine_eq]; omega
        · rw [Array.toArray_toList]; exact IsTup.new _ _
def wTR3 (w : WA) : WE := fun ρ P Ex => w ρ (fun ys => match ys with
  | [x, y, z] => match x.rd, y.rd, z.rd with
    | some (.int i), some (.int j), some (.int c) => ∃ n, RgC i j c n ∧ n ≤ 2 ^ 24 ∧ P (.d (.tuple (stepD i c n)))
    | _, _, _ => False
  | _ => False) Ex
theorem sim_tupRg3 {a b c : Expr} {wa : WA} {p p2 q pos : Pos} (hc : X.calm = true) (h : SimA X W Z CL ow0 Hb [a, b, c] wa) (hg : Gl X "tuple") (hm : X.mg "tuple" = none) (hg2 : Gl X "range") (hm2 : X.mg "range" = none)
    (hs : starEach [a, b, c] X.env = (false, eval a X.env) :: starEach [b, c] X.env := by rfl) (hpl : (backTo q (starEach [b, c] X.env)).any (·.1) = false := by rfl)
    (na : starEach [(.Call (.Name "range" p2) [a, b, c] [] q : Expr)] X.env = (false, eval (.Call (.Name "range" p2) [a, b, c] [] q) X.env) :: starEach [] X.env := by rfl) :
    SimE X W Z CL ow0 Hb (.Call (.Name "tuple" p) [.Call (.Name "range" p2) [a, b, c] [] q] [] pos) (wTR3 wa) := by
  intro S ρ σ H ow P Ex Q r w g bd
  refine PEat.of (pe_tupRg3 hc hg hm hg2 hm2 PAat.pa hs hpl na) (h S ρ σ H ow _ Ex _ r w (fun ys vs H1 p e1 z1 qv => ?_) bd)
  split at p
  · split at p
    · rename_i x y z' i j k ei ej ek
      obtain ⟨n, p1, p2, p3⟩ := p
      cases qv with
      | cons q1 q2 =>
        cases q2 with
        | cons q2 q3 =>
          cases q3 with
          | cons q3 q4 =>
            cases q4
            exact ⟨i, j, k, n, by rw [q1.int ei, q2.int ej, q3.int ek], p1, p2, fun l hl => (g.step e1 r.gr.fpo).tup p3 (r.gr.step e1 z1) hl (step_dt _ _ _)⟩
    · exact p.elim
  · exact p.elim
end
end Pd

/-! Pd25: small data: what repr and == ask of a datum, kept by weight and depth. -/
namespace Pd
open PySem PySem.Spec PyProof.Rows L2
structure Sm (n k : Nat) (d : D) : Prop where
  sh : d.showable = true
  ls : d.leavesShort 13 = true
  wt : d.weight ≤ n
  dp : d.depth ≤ k
  pl : d.plain = true
structure SmAll (n k : Nat) (xs : List D) : Prop where
  sh : PyData.showableAll xs = true
  ls : PyData.leavesShortAll 13 xs = true
  wt : PyData.weightAll xs ≤ n
  dp : PyData.depthAll xs ≤ k
  pl : PyData.plainAll xs = true
variable {n k m j : Nat} {d : D} {xs : List D}
theorem Sm.mono (h : Sm n k d) (hn : n ≤ m) (hk : k ≤ j) : Sm m j d := ⟨h.sh, h.ls, Nat.le_trans h.wt hn, Nat.le_trans h.dp hk, h.pl⟩
theorem Sm.none : Sm 0 0 .none := ⟨rfl, rfl, Nat.le_refl _, Nat.le_refl _, rfl⟩
theorem Sm.bool (b : Bool) : Sm 0 0 (.bool b) := ⟨rfl, rfl, Nat.le_refl _, Nat.le_refl _, rfl⟩
theorem Sm.int {i : Int} (h1 : -999999999999 ≤ i) (h2 : i ≤ 999999999999) : Sm 40 0 (.int i) := by
  have l : i.natAbs < 2 ^ 40 := by omega
  have g : i.natAbs.log2 < 40 := by
    by_cases z : i.natAbs = 0
    · rw [z]; decide
    · exact (Nat.log2_lt z).mpr l
  refine ⟨?_, ?_, ?_, Nat.le_refl _, rfl⟩
  · simp only [PyData.showable, decide_eq_true_eq]; omega
  · simp only [PyData.leavesShort, decide_eq_true_eq]; exact PyData.shown_int_le2 h1 h2
  · simp only [PyData.weight]; split <;> omega
theorem Sm.str {s : Str} (h : s.cps.toList.all (fun c => decide (c < 16 ^ 8)) = true) (hl : s.length ≤ n) : Sm n 0 (.str s) := ⟨rfl, by simpa only [PyData.leavesShort] using h, by simp only [PyData.weight]; exact hl, Nat.le_refl _, rfl⟩
theorem SmAll.nil : SmAll 0 0 [] := ⟨rfl, rfl, Nat.le_refl _, Nat.le_refl _, rfl⟩
theorem SmAll.cons (h : Sm n k d) (r : SmAll m j xs) : SmAll (n + 1 + m) (max k j) (d :: xs) := by
  refine ⟨?_, ?_, ?_, ?_, ?_⟩
  · simp only [PyData.showableAll, h.sh, r.sh, Bool.and_self]
  · simp only [PyData.leavesShortAll, h.ls, r.ls, Bool.and_self]
  · have := h.wt; have := r.wt; simp only [PyData.weightAll]; omega
  · have := h.dp; have := r.dp; simp only [PyData.depthAll]; omega
  · simp only [PyData.plainAll, h.pl, r.pl, Bool.and_self]
theorem SmAll.of : ∀ {xs : List D}, (∀ d ∈ xs, Sm n k d) → SmAll (xs.length * (n + 1)) k xs
  | [], _ => ⟨rfl, rfl, by simp [PyData.weightAll], Nat.zero_le _, rfl⟩
  | x :: xs, h => by
    have a := SmAll.cons (h x List.mem_cons_self) (SmAll.of fun d m => h d (List.mem_cons_of_mem _ m))
    have e : (x :: xs).length * (n + 1) = n + 1 + xs.length * (n + 1) := by rw [List.length_cons, Nat.add_mul]; omega
    rw [e]
    rw [Nat.max_self] at a
    exact a
theorem SmAll.mono (h : SmAll n k xs) (hn : n ≤ m) (hk : k ≤ j) : SmAll m j xs := ⟨h.sh, h.ls, Nat.le_trans h.wt hn, Nat.le_trans h.dp hk, h.pl⟩
theorem SmAll.map {α : Type} {f : α → D} {l : List α} (h : ∀ a ∈ l, Sm n k (f a)) (hl : l.length ≤ m) : SmAll (m * (n + 1)) k (l.map f) := by
  have a : SmAll ((l.map f).length * (n + 1)) k (l.map f) := SmAll.of fun d hd => by
    obtain ⟨a, ha, rfl⟩ := List.mem_map.mp hd
    exact h a ha
  rw [List.length_map] at a
  exact a.mono (Nat.mul_le_mul_right _ hl) (Nat.le_refl _)
theorem SmAll.list (h : SmAll n k xs) : Sm n (k + 1) (.list xs) := ⟨by simp only [PyData.showable]; exact h.sh, by simp only [PyData.leavesShort]; exact h.ls, by simp only [PyData.weight]; exact h.wt, by simp only [PyData.depth]; exact Nat.add_le_add_right h.dp 1, by simp only [PyData.plain]; exact h.pl⟩
theorem SmAll.tup (h : SmAll n k xs) : Sm n (k + 1) (.tuple xs) := ⟨by simp only [PyData.showable]; exact h.sh, by simp only [PyData.leavesShort]; exact h.ls, by simp only [PyData.weight]; exact h.wt, by simp only [PyData.depth]; exact Nat.add_le_add_right h.dp 1, by simp only [PyData.plain]; exact h.pl⟩
theorem Sm.eqv (h : Sm n k d) : PyData.eqv d d = true := PySem.SeqAt.eqv_refl_plain d h.pl
theorem Sm.shown (h : Sm n k d) (hn : n ≤ 2 ^ 20) : d.shown.length ≤ sizeLine := PyData.shown_fits (by decide) (by decide) h.ls (Nat.le_trans h.wt hn)
/-- whole numbers -/
theorem SmAll.ints {l : List Int} (h : ∀ i ∈ l, -999999999999 ≤ i ∧ i ≤ 999999999999) (hl : l.length ≤ m) : SmAll (m * 41) 0 (l.map .int) := SmAll.map (fun i hi => Sm.int (h i hi).1 (h i hi).2) hl
end Pd

namespace Pd
open PySem PySem.Spec PyProof.Rows L2
/-- the scope that a block's scope is read as, within a block of scope out -/
def relS (inner out : Scope) : Scope :=
  { inner with names := inner.names.map fun (n, k) => if (k == .free && out.kind == .function && out.names.lookup n == some .cell) then (n, .cell) else (n, k) }
section
variable {X : Cx} {W : WX} {Z : Ext} {CL : Calls} {ow0 : List Addr} {Hb : Hp}
/-- a, b = x, y, kept as data -/
def wPar (i j : Nat) (wa : WA) : WS := fun E ρ => wa ρ (fun ys => match keeps ys with
  | some [d, e] => E.nx ((ρ.set i (some (.d d))).set j (some (.d e)))
  | _ => False) (fun x => E.ex x ρ)
def wPar3 (i j l : Nat) (wa : WA) : WS := fun E ρ => wa ρ (fun ys => match keeps ys with
  | some [d, e, f] => E.nx (((ρ.set i (some (.d d))).set j (some (.d e))).set l (some (.d f)))
  | _ => False) (fun x => E.ex x ρ)
theorem sim_par (i j : Nat) {x y : Str} {a b : Expr} {wa : WA} {px py pt pos : Pos} {kt k2 pt2} (hc : X.calm = true) (h : SimA X W Z CL ow0 Hb [a, b] wa) (hN : X.N.Nodup) (hij : i ≠ j := by decide)
    (hi : X.N[i]? = some x := by rfl) (hj : X.N[j]? = some y := by rfl) (hx : X.env.scope.names.lookup x = some .local := by rfl) (hy : X.env.scope.names.lookup y = some .local := by rfl)
    (hw : swappedStores [.Tuple [.Name x px, .Name y py] kt pt] (.Tuple [a, b] k2 pt2) X.env = pure (some [x, y]) := by rfl)
    (hs : swapsWithSole [.Tuple [.Name x px, .Name y py] kt pt] (.Tuple [a, b] k2 pt2) pos.line X.env = pure false := by rfl) :
    SimS X W Z CL ow0 Hb (.Assign [.Tuple [.Name x px, .Name y py] kt pt] (.Tuple [a, b] k2 pt2) pos) (wPar i j wa) := by
  intro S ρ σ H ow E D r w o
  refine PSat.of (ps_par hc hN hi hj hij hx hy PAat.pa hw hs) (h S ρ σ H ow _ _ _ r w (fun ys vs H' p e z q => ?_) (o.bd r))
  split at p
  · rename_i d e' ed
    have ha := q.keeps ed
    cases ha with
    | cons h1 ha =>
      cases ha with
      | cons h2 ha =>
        cases ha
        exact ⟨_, _, rfl, o.nx _ _ H' ow p (((r.step e z).setD h1).setD h2)⟩
  · exact p.elim
theorem sim_par3 (i j l : Nat) {x y u : Str} {a b c : Expr} {wa : WA} {px py pz pt pos : Pos} {kt k2 pt2} (hc : X.calm = true) (h : SimA X W Z CL ow0 Hb [a, b, c] wa) (hN : X.N.Nodup) (hij : i ≠ j := by decide) (hil : i ≠ l := by decide) (hjl : j ≠ l := by decide)
    (hi : X.N[i]? = some x := by rfl) (hj : X.N[j]? = some y := by rfl) (hl : X.N[l]? = some u := by rfl) (hx : X.env.scope.names.lookup x = some .local := by rfl) (hy : X.env.scope.names.lookup y = some .local := by rfl) (hz : X.env.scope.names.lookup u = some .local := by rfl)
    (hw : swappedStores [.Tuple [.Name x px, .Name y py, .Name u pz] kt pt] (.Tuple [a, b, c] k2 pt2) X.env = pure (some [x, y, u]) := by rfl)
    (hs : swapsWithSole [.Tuple [.Name x px, .Name y py, .Name u pz] kt pt] (.Tuple [a, b, c] k2 pt2) pos.line X.env = pure false := by rfl) :
    SimS X W Z CL ow0 Hb (.Assign [.Tuple [.Name x px, .Name y py, .Name u pz] kt pt] (.Tuple [a, b, c] k2 pt2) pos) (wPar3 i j l wa) := by
  intro S ρ σ H ow E D r w o
  refine PSat.of (ps_par3 hc hN hi hj hl hij hil hjl hx hy hz PAat.pa hw hs) (h S ρ σ H ow _ _ _ r w (fun ys vs H' p e z q => ?_) (o.bd r))
  split at p
  · rename_i d e' f' ed
    have ha := q.keeps ed
    cases ha with
    | cons h1 ha =>
      cases ha with
      | cons h2 ha =>
        cases ha with
        | cons h3 ha =>
          cases ha
          exact ⟨_, _, _, rfl, o.nx _ _ H' ow p ((((r.step e z).setD h1).setD h2).setD h3)⟩
  · exact p.elim
theorem lc2_parts {tg iter tg1 iter1 elt : Expr} {ifs ifs1 : List Expr} {scope : Scope} {own : List (Str × Nat)} {wi wi1 : WI} {b b1 : WB} {is is1 vs1 : List Nat} {tt tt1 : WT} {we : WE} (g0 : Gr Z ow0 Hb) (hi : SimI X W Z CL ow0 Hb tg iter wi) (his : ∀ i ∈ is, i ∈ own.map (·.2)) (his1 : ∀ i ∈ is1, i ∈ vs1)
    (hg : InBlk X scope fun Y => SimB Y Z CL ow0 Hb tg b is) (ht : InBlk X scope fun Y => SimTs Y W0 Z CL ow0 Hb ifs tt) (hi1 : InBlk X scope fun Y => SimI Y W0 Z CL ow0 Hb tg1 iter1 wi1) (hg1 : InBlk X scope fun Y => SimB Y Z CL ow0 Hb tg1 b1 is1) (ht1 : InBlk X scope fun Y => SimTs Y W0 Z CL ow0 Hb ifs1 tt1) (he : InBlk X scope fun Y => SimE Y W0 Z CL ow0 Hb elt we)
    {S : Hp} {ρ : Ev} {σ : L2.St} {H : Hp} {ow : List Addr} {P : Val → Prop} {Ex : Xn → Prop} {Q : VK} (r : Rel CL Z X.K ow0 Hb S ρ σ H ow) (w : wLc2 wi b tt wi1 b1 tt1 we (own.map (·.2)) vs1 ρ P Ex) (g : Gd CL Z X.K ow H P Q) (bd : Bd Z X.K ow X.mg W σ H Ex) :
    tLc2 (fun σ H R => PIat X tg iter σ H fun J H' => Held X H' → R J H') (fun v σ H Q => InBlk X scope fun Y => PGat Y tg v σ H Q) (fun σ H Q => InBlk X scope fun Y => PTsat Y ifs σ H Q) (fun σ H R => InBlk X scope fun Y => PIat Y tg1 iter1 σ H fun J H' => Held Y H' → R J H') (fun v σ H Q => InBlk X scope fun Y => PGat Y tg1 v σ H Q) (fun σ H Q => InBlk X scope fun Y => PTsat Y ifs1 σ H Q) (fun σ H Q => InBlk X scope fun Y => PEat Y elt σ H Q) (own.map (·.2)) vs1 σ H Q := by
  refine lc2_sound (X := X) (W := W) (Z := Z) (CL := CL) (ow0 := ow0) (Hb := Hb) (scope := scope) hi his his1 g0 (fun r h w g s H C cl fp => ?_) (fun r w g s H C cl fp => ?_) (fun r w g s H C cl fp => ?_) (fun r h w g s H C cl fp => ?_) (fun r w g s H C cl fp => ?_) (fun r w g s H C cl fp => ?_) r w g bd
  · exact hg s H C cl fp _ _ _ _ _ _ _ _ _ r h w g
  · exact ht s H C cl fp _ _ _ _ _ _ _ _ r w g fun _ _ _ _ z => z.elim
  · exact hi1 s H C cl fp _ _ _ _ _ _ _ _ r w (fun ds J H' p e z j _ _ => g ds J H' p e z j) fun _ _ _ _ z => z.elim
  · exact hg1 s H C cl fp _ _ _ _ _ _ _ _ _ r h w g
  · exact ht1 s H C cl fp _ _ _ _ _ _ _ _ r w g fun _ _ _ _ z => z.elim
  · exact he s H C cl fp _ _ _ _ _ _ _ _ r w g fun _ _ _ _ z => z.elim
/-- name = [.. for .. for ..] -/
theorem sim_setLc2D (i : Nat) {y : Str} {py : Pos} {tg iter tg1 iter1 elt : Expr} {ifs ifs1 : List Expr} {scope : Scope} {own : List (Str × Nat)} {pos spos : Pos} {wi wi1 : WI} {b b1 : WB} {is is1 vs1 : List Nat} {tt tt1 : WT} {we : WE} (hc : X.calm = true) (hN : X.N.Nodup) (g0 : Gr Z ow0 Hb) (hi : SimI X W Z CL ow0 Hb tg iter wi) (ok : BlkOk X.N X.env.scope scope own) (his : ∀ i ∈ is, i ∈ own.map (·.2)) (his1 : ∀ i ∈ is1, i ∈ vs1) (hv : ∀ i ∈ vs1, i ∈ own.map (·.2))
    (hg : InBlk X scope fun Y => SimB Y Z CL ow0 Hb tg b is) (ht : InBlk X scope fun Y => SimTs Y W0 Z CL ow0 Hb ifs tt) (hi1 : InBlk X scope fun Y => SimI Y W0 Z CL ow0 Hb tg1 iter1 wi1) (hg1 : InBlk X scope fun Y => SimB Y Z CL ow0 Hb tg1 b1 is1) (ht1 : InBlk X scope fun Y => SimTs Y W0 Z CL ow0 Hb ifs1 tt1) (he : InBlk X scope fun Y => SimE Y W0 Z CL ow0 Hb elt we)
    (hy : X.N[i]? = some y := by rfl) (hyl : X.env.scope.names.lookup y = some .local := by rfl) (hsw : swapsWith (.ListComp elt [⟨tg, iter, ifs, 0⟩, ⟨tg1, iter1, ifs1, 0⟩] scope pos) (some (.Name y py)) spos.line X.env = pure true := by exact sw_true rfl rfl rfl (by decide +kernel))
    (hs : ∀ x, foldedSetIterable iter X.env x = pure x := by intro _; rfl) (hs1 : ∀ env x, foldedSetIterable iter1 env x = pure x := by intro _ _; rfl) : SimS X W Z CL ow0 Hb (.Assign [.Name y py] (.ListComp elt [⟨tg, iter, ifs, 0⟩, ⟨tg1, iter1, ifs1, 0⟩] scope pos) spos) (wSetD i (wLc2 wi b tt wi1 b1 tt1 we (own.map (·.2)) vs1)) := by
  intro S ρ σ H ow E D r w o
  refine PSat.of (ps_setLc2 (g := fun v σ H Q => InBlk X scope fun Y => PGat Y tg v σ H Q) (tt := fun σ H Q => InBlk X scope fun Y => PTsat Y ifs σ H Q) (wi1 := fun σ H R => InBlk X scope fun Y => PIat Y tg1 iter1 σ H fun J H' => Held Y H' → R J H') (g1 := fun v σ H Q => InBlk X scope fun Y => PGat Y tg1 v σ H Q) (tt1 := fun σ H Q => InBlk X scope fun Y => PTsat Y ifs1 σ H Q) (te := fun σ H Q => InBlk X scope fun Y => PEat Y elt σ H Q) hc hN hy hyl hsw PIat.pi ok hv
    (fun s H C cl fp => ⟨fun pins s' σ H' v u Q I rv h => (h s H C cl fp).go pins s' u I rv⟩) (fun s H C cl fp => ⟨fun pins s' σ H' Q I h => (h s H C cl fp).go pins s' I⟩) (fun s H C cl fp => ⟨fun pins s' σ H' R I h => PIat.pi.run pins s' σ H' R I (h s H C cl fp)⟩) (fun s H C cl fp => ⟨fun pins s' σ H' v u Q I rv h => (h s H C cl fp).go pins s' u I rv⟩) (fun s H C cl fp => ⟨fun pins s' σ H' Q I h => (h s H C cl fp).go pins s' I⟩) (fun s H C cl fp => ⟨fun pins s' σ H' Q I h => (h s H C cl fp).go pins s' I⟩) hs hs1) ?_
  refine lc2_parts g0 hi his his1 hg ht hi1 hg1 ht1 he r w (fun t v H' p e z q => ?_) (o.bd r)
  split at p
  · rename_i d ed
    exact o.nx _ _ H' ow p ((r.step e z).setD (q.kp ed))
  · exact p.elim
end
end Pd

/-! Pd27: laws of loops over lists that are mapped; whole numbers below a bound. -/
namespace Pd
open PySem PySem.Spec PyProof.Rows L2
def upto (n : Int) : List Int := (List.range n.toNat).map fun (i : Nat) => (i : Int)
theorem mem_count {n i : Int} (h : i ∈ upto n) : 0 ≤ i ∧ i < n := by
  unfold upto at h
  obtain ⟨k, hk, rfl⟩ := List.mem_map.mp h
  have := List.mem_range.mp hk
  omega
theorem count_upto (n : Int) : countD 0 n.toNat = (upto n).map .int := by
  unfold countD upto
  rw [List.map_map]
  exact List.map_congr_left fun k _ => by simp
theorem upto_len (n : Int) : (upto n).length = n.toNat := by simp [upto]
theorem upto_succ (n : Nat) : upto ((n : Int) + 1) = upto n ++ [(n : Int)] := by
  unfold upto
  have e : ((n : Int) + 1).toNat = n + 1 := by omega
  have e2 : (n : Int).toNat = n := by omega
  rw [e, e2, List.range_succ, List.map_append]
  rfl
theorem find_range (p : Nat → Bool) : ∀ (m s : Nat), (List.range' s m).findIdx? p = ((List.range' s m).find? p).map (· - s)
  | 0, s => rfl
  | m + 1, s => by
    rw [List.range'_succ, List.findIdx?_cons, List.find?_cons]
    cases e : p s with
    | true => simp
    | false =>
      simp only [Bool.false_eq_true, if_false]
      rw [find_range p m (s + 1)]
      cases q : (List.range' (s + 1) m).find? p with
      | none => rfl
      | some x =>
        have hx := List.mem_range'_1.mp (List.mem_of_find?_eq_some q)
        simp only [Option.map_some]
        congr 1
        omega
theorem find_upto (p : Int → Bool) (n : Int) : (upto n).findIdx? p = ((upto n).find? p).map Int.toNat := by
  unfold upto
  rw [List.findIdx?_map, List.find?_map, List.range_eq_range', find_range]
  cases q : (List.range' 0 n.toNat).find? (p ∘ fun (i : Nat) => (i : Int)) with
  | none => simp_all
  | some x => simp_all
theorem find_some_upto {p : Int → Bool} {n i : Int} (h : (upto n).find? p = some i) : 0 ≤ i ∧ i < n := mem_count (List.mem_of_find?_eq_some h)
theorem enum_upto {α : Type} [Inhabited α] (l : List α) (f : α → D) : enumD (l.map f) = (upto l.length).map fun i => .tuple [.int i, f (l.getD i.toNat default)] := by
  apply List.ext_getElem
  · simp [enumD, upto]
  · intro i h1 h2
    have h3 : i < l.length := by simpa [enumD] using h1
    simp [enumD, upto, List.getD, h3]
theorem map_upto {α β : Type} [Inhabited α] (l : List α) (f : α → β) : l.map f = (upto l.length).map fun i => f (l.getD i.toNat default) := by
  apply List.ext_getElem
  · simp [upto]
  · intro i h1 h2
    have h3 : i < l.length := by simpa using h1
    simp [upto, List.getD, h3]
/-- each item made by g, over whole numbers -/
theorem lcW_upto {b : WB} {we : WE} {ρ0 : Ev} {P : List D → Prop} {n : Int} (g : Int → D) (h : ∀ i, 0 ≤ i → i < n → ∀ K : D → Prop, K (g i) → b ρ0 (.int i) fun ρ' => we ρ' (fun y => match y.kp with
      | some e => K e
      | none => False) (fun _ => False)) (hp : P ((upto n).map g)) : lcW b wYes we ρ0 P ((upto n).map .int) [] := by
  refine lcW_map (fun d => match d with
    | .int i => g i
    | d => d) (fun d m K hK => ?_) ?_
  · obtain ⟨i, hi, rfl⟩ := List.mem_map.mp m
    exact h i (mem_count hi).1 (mem_count hi).2 K hK
  · rw [List.nil_append, List.map_map]
    exact hp
/-- each item made by g, over what is mapped -/
theorem lcW_mapf {α : Type} {b : WB} {we : WE} {ρ0 : Ev} {P : List D → Prop} {xs : List α} (f g : α → D) (h : ∀ a ∈ xs, ∀ K : D → Prop, K (g a) → b ρ0 (f a) fun ρ' => we ρ' (fun y => match y.kp with
      | some e => K e
      | none => False) (fun _ => False)) : ∀ {acc : List D}, P (acc ++ xs.map g) → lcW b wYes we ρ0 P (xs.map f) acc := by
  induction xs with
  | nil =>
    intro acc q
    simpa [lcW] using q
  | cons d ds ih =>
    intro acc q
    rw [List.map_cons]
    unfold lcW
    have := h d List.mem_cons_self (fun e => lcW b wYes we ρ0 P (ds.map f) (acc ++ [e])) (ih (fun d m => h d (List.mem_cons_of_mem _ m)) (by simpa using q))
    exact this
/-- those that pass p, made by g -/
theorem lcW_fm {α : Type} {b : WB} {tt : WT} {we : WE} {ρ0 : Ev} {P : List D → Prop} {xs : List α} (f g : α → D) (p : α → Bool) (h : ∀ a ∈ xs, ∀ (K : List D → Prop) acc, K (if p a = true then acc ++ [g a] else acc) → b ρ0 (f a) fun ρ' => tt ρ' (fun c => if c = true then we ρ' (fun y => match y.kp with
      | some e => K (acc ++ [e])
      | none => False) (fun _ => False) else K acc) (fun _ => False)) : ∀ {acc : List D}, P (acc ++ (xs.filter p).map g) → lcW b tt we ρ0 P (xs.map f) acc := by
  induction xs with
  | nil =>
    intro acc q
    simpa [lcW] using q
  | cons d ds ih =>
    intro acc q
    rw [List.map_cons]
    unfold lcW
    have := h d List.mem_cons_self (fun acc' => lcW b tt we ρ0 P (ds.map f) acc') acc ?_
    · exact this
    · cases e : p d with
      | true =>
        rw [if_pos rfl]
        refine ih (fun d m => h d (List.mem_cons_of_mem _ m)) ?_
        rw [List.filter_cons_of_pos e] at q
        simpa using q
      | false =>
        rw [if_neg (by decide)]
        refine ih (fun d m => h d (List.mem_cons_of_mem _ m)) ?_
        rw [List.filter_cons_of_neg (by simp [e])] at q
        exact q
/-- a loop that returns at the first item that passes p -/
theorem forW_find {α : Type} {b : WB} {body : WS} {E : En} {f : α → D} {p : α → Bool} {Rt : α → Prop} (Sh : Ev → Prop) : ∀ {xs : List α}, (∀ a ∈ xs, ∀ ρ (K : Ev → Prop), Sh ρ → (p a = true → Rt a) → (p a = false → ∀ ρ', Sh ρ' → K ρ') → b ρ (f a) fun ρ' => body { E with nx := K, ct := K, bk := E.nx } ρ') →
    (match xs.find? p with
    | some a => Rt a
    | none => ∀ ρ, Sh ρ → E.nx ρ) → ∀ ρ, Sh ρ → forW b body E (xs.map f) ρ
  | [], _, h, ρ, s => h ρ s
  | a :: xs, st, h, ρ, s => by
    rw [List.map_cons]
    refine st a List.mem_cons_self ρ (forW b body E (xs.map f)) s (fun e => ?_) (fun e ρ' s' => ?_)
    · rw [List.find?_cons, e] at h
      exact h
    · rw [List.find?_cons, e] at h
      exact forW_find Sh (fun a m => st a (List.mem_cons_of_mem _ m)) h ρ' s'
theorem atI_map {α : Type} [Inhabited α] {l : List α} {f : α → D} {j : Int} (h0 : 0 ≤ j) (h1 : j < l.length) : atI (l.map f) j = some (f (l.getD j.toNat default)) := by
  unfold atI ixN
  have h2 : j < ((l.map f).length : Int) := by rw [List.length_map]; exact h1
  rw [if_pos h0, if_pos h2]
  have h3 : j.toNat < l.length := by omega
  simp [List.getD, h3]
theorem ix_tup {xs : List D} {j : Int} {d : D} {P : Val → Prop} (e : atI xs j = some d) (h : P (.d d)) : opIx (.d (.tuple xs)) (.d (.int j)) P := by
  show match atI xs j with
    | some d => P (.d d)
    | none => False
  rw [e]
  exact h
theorem eqv_strs (a b : Str) : PyData.eqv (.str a) (.str b) = (a == b) := by
  simp only [PyData.eqv]
theorem eqv_ints (a b : Int) : PyData.eqv (.int a) (.int b) = decide (a = b) := by
  simp only [PyData.eqv]
  rw [Bool.eq_iff_iff]
  simp
end Pd

/-! Pd28: laws of comprehensions of two walks; sorted whole numbers; inserting. -/
namespace Pd
open PySem PySem.Spec PyProof.Rows L2
theorem lcIn_map {b1 : WB} {we : WE} {ρ1 : Ev} {K : List D → Prop} (g : D → D) : ∀ {ds acc : List D}, (∀ d ∈ ds, ∀ K : D → Prop, K (g d) → b1 ρ1 d fun ρ' => we ρ' (fun y => match y.kp with
      | some e => K e
      | none => False) (fun _ => False)) → acc.length + ds.length ≤ sizeLine → K (acc ++ ds.map g) → lcIn b1 wYes we ρ1 K ds acc
  | [], acc, _, _, q => by
    unfold lcIn
    simpa using q
  | d :: ds, acc, h, hl, q => by
    unfold lcIn
    have := h d List.mem_cons_self (fun e => acc.length < sizeLine ∧ lcIn b1 wYes we ρ1 K ds (acc ++ [e])) ⟨by simp at hl; omega, lcIn_map g (fun d m => h d (List.mem_cons_of_mem _ m)) (by simp at hl ⊢; omega) (by simpa using q)⟩
    exact this
theorem lcOut_flat {α : Type} {b : WB} {wi1 : WI} {b1 : WB} {tt1 : WT} {we : WE} {vs1 : List Nat} {ρ0 : Ev} {P : List D → Prop} (f : α → D) (G : α → List D) : ∀ {xs : List α} {acc : List D}, (∀ a ∈ xs, ∀ (K : List D → Prop) (acc : List D), acc.length + (G a).length ≤ sizeLine → K (acc ++ G a) → b ρ0 (f a) fun ρ' => wi1 ρ' (fun ds1 => lcIn b1 tt1 we (wipeE ρ' vs1) K ds1 acc) (fun _ => False)) →
    acc.length + (xs.flatMap G).length ≤ sizeLine → P (acc ++ xs.flatMap G) → lcOut b wYes wi1 b1 tt1 we vs1 ρ0 P (xs.map f) acc
  | [], acc, _, _, q => by
    simpa [lcOut] using q
  | a :: xs, acc, h, hl, q => by
    rw [List.map_cons]
    unfold lcOut
    rw [List.flatMap_cons, List.length_append] at hl
    have := h a List.mem_cons_self (fun acc' => lcOut b wYes wi1 b1 tt1 we vs1 ρ0 P (xs.map f) acc') acc (by omega) (lcOut_flat f G (fun d m => h d (List.mem_cons_of_mem _ m)) (by rw [List.length_append]; omega) (by simpa [List.flatMap_cons] using q))
    exact this
theorem srt_ints (l : List Int) : srt (l.map .int) = (l.mergeSort (fun a b => decide (a ≤ b))).map .int := by
  unfold srt
  refine (List.map_mergeSort fun a _ b _ => ?_).symm
  exact (congrFun (congrFun (PySem.W.dataLe_int (β := Int) fun i => i) a) b).symm
theorem asc_ints {l : List Int} (h : l.Nodup) : (l.mergeSort (fun a b => decide (a ≤ b))).Pairwise (· < ·) := by
  have s := List.pairwise_mergeSort (le := fun (a b : Int) => decide (a ≤ b)) (fun a b c h1 h2 => by simp at *; omega) (fun a b => by simp; omega) l
  have n : (l.mergeSort (fun a b => decide (a ≤ b))).Nodup := (List.mergeSort_perm l _).nodup_iff.mpr h
  refine (s.and n).imp fun {a b} q => ?_
  have h1 := of_decide_eq_true q.1
  have h2 := q.2
  omega
theorem alike_ints (l : List Int) : PySem.W.AllAlike (l.map .int) ∧ PySem.W.Sortable (l.map .int) ∧ ∀ d ∈ l.map PyData.int, d.depth ≤ 100 := by
  refine ⟨fun d hd d' hd' => ?_, .inr fun d hd => ?_, fun d hd => ?_⟩
  · obtain ⟨a, _, rfl⟩ := List.mem_map.mp hd
    obtain ⟨b, _, rfl⟩ := List.mem_map.mp hd'
    rfl
  · obtain ⟨a, _, rfl⟩ := List.mem_map.mp hd
    exact ⟨(fun e => nomatch e), fun xs e => nomatch e⟩
  · obtain ⟨a, _, rfl⟩ := List.mem_map.mp hd
    simp [PyData.depth]
theorem insert_perm {α : Type} (zs ds : List α) (d : α) (n : Nat) : (zs.take n ++ [d] ++ zs.drop n ++ ds).Perm (zs ++ d :: ds) := by
  have h : (zs.take n ++ [d] ++ zs.drop n).Perm (d :: zs) := by
    have := List.perm_middle (a := d) (l₁ := zs.take n) (l₂ := zs.drop n)
    rw [List.take_append_drop] at this
    simpa using this
  exact (h.append_right ds).trans (List.perm_middle (a := d) (l₁ := zs) (l₂ := ds)).symm
end Pd

/-! Pd29: reorderings of what is mapped; cuts. -/
namespace Pd
open PySem PySem.Spec PyProof.Rows L2
theorem perm_map {α β : Type} {f : α → β} {zs ms : List β} (h : zs.Perm ms) : ∀ l0 : List α, ms = l0.map f → ∃ l : List α, l.Perm l0 ∧ zs = l.map f := by
  induction h with
  | nil =>
    intro l0 e
    have : l0 = [] := by simpa using e.symm
    subst this
    exact ⟨[], .nil, rfl⟩
  | cons x _ ih =>
    intro l0 e
    cases l0 with
    | nil => cases e
    | cons a l0 =>
      cases e
      obtain ⟨l, h1, h2⟩ := ih l0 rfl
      exact ⟨a :: l, h1.cons a, by rw [h2]; rfl⟩
  | swap x y l =>
    intro l0 e
    match l0, e with
    | a :: b :: l0, e =>
      cases e
      exact ⟨b :: a :: l0, .swap a b l0, rfl⟩
  | trans _ _ ih1 ih2 =>
    intro l0 e
    obtain ⟨l1, h1, h2⟩ := ih2 l0 e
    obtain ⟨l, h3, h4⟩ := ih1 l1 h2
    exact ⟨l, h3.trans h1, h4⟩
theorem cut_to {α : Type} (xs : List α) {k : Int} (h0 : 0 ≤ k) (h1 : k ≤ xs.length) : cutG xs none (some k) = xs.take k.toNat := by
  have i2 : HT.sIx xs.length xs.length (some k) = k.toNat := by
    simp only [HT.sIx]
    rw [if_neg (by omega)]
    omega
  unfold cutG
  rw [i2]
  simp [HT.sIx]
theorem cut_from {α : Type} (xs : List α) {k : Int} (h0 : 0 ≤ k) (h1 : k ≤ xs.length) : cutG xs (some k) none = xs.drop k.toNat := by
  have i1 : HT.sIx xs.length 0 (some k) = k.toNat := by
    simp only [HT.sIx]
    rw [if_neg (by omega)]
    omega
  unfold cutG
  rw [i1]
  simp [HT.sIx]
  exact List.take_of_length_le (by simp)
theorem upto_nodup (n : Int) : (upto n).Nodup := by
  unfold upto
  refine List.Pairwise.map _ (fun a b h => ?_) List.nodup_range
  omega
end Pd

/-! Pd30: own exceptions over ValueError whose __init__ hands two arguments on and keeps them. -/
namespace Pd
open PySem PySem.Spec PyProof.Rows L2

abbrev bmVE : List Value := [.type "ValueError", .type "Exception", .type "BaseException", .type "object"]
/-- the class at C, its __init__ the def st of the parameters self, a, b -/
structure Ini2 (P : Program) (K : PySem.W.Frag) (mg : Str → Option Value) (st : Stmt) (x a b : Str) (C : Addr) : Prop where
  fn : ∃ (fI cda cc : Addr) (qual : Str) (kV doc pm ct oc ccl cl : Value) (an od cdd cld : Option Addr) (osl ccs csl : Array (Option Value)) (vs : Array Value) (file : Str) (tf : Tok),
    K.lookup fI = some ⟨oc, od, .func (PySem.W.ksFn "__init__" qual (defArgs st) (defBody st) (defScope st) .none kV doc pm an (.ref cda) ct cc), osl⟩ ∧ PySem.W.codeIn K (.ref cda) qual = true ∧
    PySem.W.findIn K (.ref C) "__init__" = some (some (.ref fI)) ∧ PySem.W.typeIn K (.ref fI) = some (.type "function") ∧ K.lookup cda = some ⟨ccl, cdd, .fields vs, ccs⟩ ∧ vs[2]? = some (.str file tf) ∧
    ((P.main.file : Str) == file) = true ∧ K.lookup cc = some ⟨cl, cld, .cell (some (.ref C)), csl⟩
  cls : ∃ cd, PySem.W.clsIn K C = some cd ∧ PySem.HandSPX.refsVE cd.mro = true ∧ cd.hasDict = true
  exc : PySem.W.excInitIn K C bmVE "ValueError.__new__" = true
  glob : mg x = some (.ref C)
  keep : PySem.W.keepIn K (.ref C) = true
  sub : PySem.W.subIn K (.ref C) (.type "BaseException") = some true
  subV : PySem.W.subIn K (.ref C) (.type "ValueError") = some true
  typ : PySem.W.typeIn K (.ref C) = some (.type "type")
  mro : PySem.W.mroIn K C (.ref C) = some true
  sup : PySem.W.ks_superIn K C C "__init__" = some (some (.builtin "ValueError.__init__"))
  third : PySem.W.nsIn K cStatics "thirdparty.any" = some none
  sa : PySem.W.findIn K (.ref C) "__setattr__" = some (some (.builtin "object.__setattr__"))
  noA : PySem.W.findIn K (.ref C) a = some none
  noB : PySem.W.findIn K (.ref C) b = some none
  nosuper : mg "super" = none
/-- the text of the __init__ -/
structure IniT (P : Program) (st : Stmt) (a b : Str) : Prop where
  body : ∃ (p0 p1 p2 p3 p4 p5 p6 p7 p8 p9 p10 p11 p12 p13 p14 : Pos), defBody st =
    [.Expr (.Call (.Attribute (.Call (.Name "super" p0) [] [] p1) "__init__" p2) [.Name a p3, .Name b p4] [] p5) p6,
     .Assign [.Attribute (.Name "self" p7) a p8] (.Name a p9) p10, .Assign [.Attribute (.Name "self" p11) b p12] (.Name b p13) p14] ∧ (p2.endLine == p5.line) = true
  bind : ∀ (qual : Str) (kV doc pm ct cda : Value) (an : Option Addr) (cc : Addr) (u v w : Value), bindArgs (PySem.W.ksFn "__init__" qual (defArgs st) (defBody st) (defScope st) .none kV doc pm an cda ct cc) ⟨[u, v, w], []⟩ = pure [(("self" : Str), u), (a, v), (b, w)]
  par : ((defArgs st).posonlyargs ++ (defArgs st).args).head?.map (·.arg) = some "self"
  kind : (defScope st).kind = .function
  co : (defScope st).isCoroutine = false
  gen : (defScope st).isGenerator = false
  nocell : ∀ y ∈ (defScope st).names, y.2 ≠ .cell
  lself : (defScope st).names.lookup ("self" : Str) = some .local
  la : (defScope st).names.lookup a = some .local
  lb : (defScope st).names.lookup b = some .local
  lsup : (defScope st).names.lookup ("super" : Str) = some .globalImplicit
  lcls : (defScope st).names.lookup ("__class__" : Str) = some .free
  top : (P.main.scope.names.lookup ("super" : Str)).isSome = false
  nas : a ≠ "self"
  nbs : b ≠ "self"
  nab : a ≠ b
  nda : (a == ("__debug__" : Str)) = false
  ndb : (b == ("__debug__" : Str)) = false
/-- what the __init__ leaves of the exception at x -/
structure Made2 (h0 h : Heap) (x C dx : Addr) (a b : Str) (v w : Value) : Prop where
  keep : ∀ q o, h0.get? q = some o → h.get? q = some o
  obj : ∃ t : Addr, h.get? x = some ({ cls := .ref C, dict := some dx, data := .fields #[.ref t, .none, .none, .none, .bool false, .none] } : Obj)
  ns : h.Ns1 dx fun y => if y = b then some w else if y = a then some v else none
  newD : h0.get? dx = none
  newX : h0.get? x = none
  ne : dx ≠ x
section
variable {P : Program} {w : World} {K : PySem.W.Frag} {mg : Str → Option Value} {st : Stmt} {x a b : Str} {C : Addr}
open PySem.W PySem.Calls
/-- a store into an exception without a dict -/
theorem store_first {A : Around} {E : Value → Shared → Prop} {h : Heap} {g : Array GenState} {d : Drawn} {t : Nat} {os : OsState} {xa t0 : Addr} {f : Str} {u : Value} {Q : Unit → Shared → Prop} (X : K.In h) (cls : ∃ cd, clsIn K C = some cd ∧ PySem.HandSPX.refsVE cd.mro = true ∧ cd.hasDict = true)
    (sa : findIn K (.ref C) "__setattr__" = some (some (.builtin "object.__setattr__"))) (no : findIn K (.ref C) f = some none) (ho : h.get? xa = some ({ cls := .ref C, dict := none, data := .fields #[.ref t0, .none, .none, .none, .bool false, .none] } : Obj))
    (hq : ∀ h' t' dx, (∀ q o, q ≠ xa → h.get? q = some o → h'.get? q = some o) → h.objs.size ≤ dx → dx ≠ xa → h'.get? xa = some ({ cls := .ref C, dict := some dx, data := .fields #[.ref t0, .none, .none, .none, .bool false, .none] } : Obj) →
      h'.Ns1 dx (fun y => if y = f then some u else none) → Q () ⟨h', g, d, t', os⟩) :
    wpAny (model P w) A (setAttr (.ref xa) f u) Q E ⟨h, g, d, t, os⟩ := by
  obtain ⟨cd, hcl, hre, hdc⟩ := cls
  refine set_plain X (ox := { cls := .ref C, dict := none, data := .fields #[.ref t0, .none, .none, .none, .bool false, .none] }) (od := none) ⟨ho, rfl, rfl, trivial⟩ sa ?_
  exact PySem.HandSPX.exc_osa X ho hcl hre hdc no fun h' tk' dx k dn dne hx hn => hq h' tk' dx k dn dne hx hn
/-- a further one -/
theorem store_more {A : Around} {E : Value → Shared → Prop} {h : Heap} {g : Array GenState} {d : Drawn} {t : Nat} {os : OsState} {xa t0 dx : Addr} {f : Str} {u : Value} {m0 : Str → Option Value} {nl : List Str} {Q : Unit → Shared → Prop} (X : K.In h) (cls : ∃ cd, clsIn K C = some cd ∧ PySem.HandSPX.refsVE cd.mro = true ∧ cd.hasDict = true)
    (sa : findIn K (.ref C) "__setattr__" = some (some (.builtin "object.__setattr__"))) (no : findIn K (.ref C) f = some none) (ho : h.get? xa = some ({ cls := .ref C, dict := some dx, data := .fields #[.ref t0, .none, .none, .none, .bool false, .none] } : Obj)) (hn : h.Ns1 dx m0) (hw : Within m0 nl) (hz : nl.length ≤ 1000)
    (hq : ∀ h' t', (∀ q o, q ≠ dx → h.get? q = some o → h'.get? q = some o) → h'.Ns1 dx (fun y => if y = f then some u else m0 y) → Q () ⟨h', g, d, t', os⟩) :
    wpAny (model P w) A (setAttr (.ref xa) f u) Q E ⟨h, g, d, t, os⟩ := by
  obtain ⟨cd, hcl, hre, hdc⟩ := cls
  obtain ⟨oD, _, _, hoD, _, _⟩ := hn.count hw
  refine set_plain X (ox := { cls := .ref C, dict := some dx, data := .fields #[.ref t0, .none, .none, .none, .bool false, .none] }) (od := some oD) ⟨ho, rfl, rfl, hoD⟩ sa ?_
  exact PySem.OEX.osa_old X ho hn hw hz hcl hre hdc no fun h' tk' k hn' => hq h' tk' k hn'

theorem call_form {o : Expr} {name : Str} {apos pos p3 p4 : Pos} {env : Env} (h : (apos.endLine == pos.line) = true) : eval (.Call (.Attribute o name apos) [.Name a p3, .Name b p4] [] pos) env = (do
      let ov ← attributeBase o name env (eval o env)
      standAt apos.atName
      let (f, first) ← holding [ov] (getMethod ov name (do return (← importBound o env).getD true))
      callWith pos f first (backTo pos (starEach [.Name a p3, .Name b p4] env)) []) := by
  rw [arm_eval_Call]
  have e : methodCallForm ([Expr.Name a p3, .Name b p4].length + ([] : List Keyword).length) (backTo pos (starEach [.Name a p3, .Name b p4] env)) (backToKw pos (keywordEach [] env)) = true := rfl
  unfold methodCall
  rw [e]
  unfold calleeOf methodCallPos
  rw [h]
  rfl
theorem boot_super : bootBuiltins "super" = some (.type "super") := by first | boot_by_name | rfl | kernel_rfl
set_option maxHeartbeats 4000000 in
theorem ini2_run {A : Around} {s : Shared} {h0 : Heap} {fI xa t0 : Addr} {v w' : Value} {R : Result → Shared → Prop} (T : Ini2 P K mg st x a b C) (TT : IniT P st a b) (kin : K.In h0) (glob : h0.Ns mainGlobals mg) (blt : ∃ mb, h0.Ns builtinsNs mb ∧ ∀ x : Str, x ≠ "__name__" → mb x = bootBuiltins x)
    (nolimit : h0.NoLimit) (keep0 : ∀ q o, h0.get? q = some o → s.heap.get? q = some o) (hsz : h0.objs.size ≤ s.heap.objs.size) (hx : s.heap.get? xa = some (excObj C t0 none .none)) (nx : h0.get? xa = none) (room : A.depth < recursionLimit)
    (hfI : findIn K (.ref C) "__init__" = some (some (.ref fI)))
    (hq : ∀ h' dx t', Made2 h0 h' xa C dx a b v w' → R (.ok (.ret .none)) { s with heap := h', toks := t' }) :
    codeAny (model P w) A (.call (.ref fI) ⟨[.ref xa, v, w'], []⟩) R s := by
  obtain ⟨fI', cda, cc, qual, kV, doc, pm, ct, oc, ccl, cl, an, od, cdd, cld, osl, ccs, csl, vs, file, tf, hf, hcode, hini, htyp, hcd, hvs, hfile, hcell⟩ := T.fn
  obtain rfl : fI' = fI := by
    rw [hini] at hfI
    exact Value.ref.inj (Option.some.inj (Option.some.inj hfI))
  obtain ⟨p0, p1, p2, p3, p4, p5, p6, p7, p8, p9, p10, p11, p12, p13, p14, hb, hpos⟩ := TT.body
  have X : K.In s.heap := kin.keeps keep0
  have hloc : ∀ y ∈ [(("self" : Str), Value.ref xa), (a, v), (b, w')], (defScope st).names.lookup y.1 = some .local := by
    intro y hy
    simp only [List.mem_cons, List.not_mem_nil, or_false] at hy
    rcases hy with rfl | rfl | rfl
    · exact TT.lself
    · exact TT.la
    · exact TT.lb
  refine ks_codeAny_call_defAt (fd := ksFn "__init__" qual (defArgs st) (defBody st) (defScope st) .none kV doc pm an (.ref cda) ct cc) (body := defBody st) (binds := [("self", .ref xa), (a, v), (b, w')]) room (X _ _ hf) rfl (nolimit.keeps keep0) (codeRec_of X hcode) rfl (BindsTo.of_eq (TT.bind ..)) TT.nocell hloc (fun h₁ hns hk₁ => ?_) TT.co TT.gen TT.kind
  have k1 : ∀ q o, h0.get? q = some o → h₁.get? q = some o := fun q o e => hk₁ q o (keep0 q o e)
  have F1 : Fr h0 s.heap.objs.size h₁ (fun y => [(("self" : Str), Value.ref xa), (a, v), (b, w')].reverse.lookup y) := ⟨hns, k1, hsz⟩
  have N1 : News h0 s.heap.objs.size h₁ [(xa, excObj C t0 none .none)] := by
    intro p hp
    simp only [List.mem_singleton] at hp
    subst hp
    exact ⟨hk₁ _ _ hx, Nat.ne_of_lt (Heap.lt_size hx), nx⟩
  have X1 : K.In h₁ := kin.keeps k1
  have mself : (fun y => [(("self" : Str), Value.ref xa), (a, v), (b, w')].reverse.lookup y) "self" = some (.ref xa) := by
    have e1 : (("self" : Str) == b) = false := by simpa using fun z => TT.nbs (by rw [← z])
    have e2 : (("self" : Str) == a) = false := by simpa using fun z => TT.nas (by rw [← z])
    simp [List.lookup, e1, e2]
  have ma : (fun y => [(("self" : Str), Value.ref xa), (a, v), (b, w')].reverse.lookup y) a = some v := by
    have e1 : (a == b) = false := by simpa using TT.nab
    simp [List.lookup, e1]
  have mb : (fun y => [(("self" : Str), Value.ref xa), (a, v), (b, w')].reverse.lookup y) b = some w' := by simp [List.lookup]
  generalize (fun y => [(("self" : Str), Value.ref xa), (a, v), (b, w')].reverse.lookup y) = m at F1 mself ma mb
  generalize eL : s.heap.objs.size = L at F1 N1 ⊢
  obtain ⟨ar, har, hself⟩ := Option.map_eq_some_iff.mp TT.par
  show PySem.wpAt _ _ (.func (defBody st) (ksEnv qual (defScope st) L fI' (.ref cda) cc)) (execs (defBody st) (ksEnv qual (defScope st) L fI' (.ref cda) cc)) _ _ _
  have q1 : (ksEnv qual (defScope st) L fI' (.ref cda) cc).kindOf "super" = some .globalImplicit := TT.lsup
  have q2 : (ksEnv qual (defScope st) L fI' (.ref cda) cc).kindOf "__class__" = some .free := TT.lcls
  have q3 : (ksEnv qual (defScope st) L fI' (.ref cda) cc).func = some fI' := rfl
  have q4 : (ksEnv qual (defScope st) L fI' (.ref cda) cc).code = .ref cda := rfl
  have q5 : (ksEnv qual (defScope st) L fI' (.ref cda) cc).cells.lookup ("__class__" : Str) = some cc := rfl
  have q6 : (ksEnv qual (defScope st) L fI' (.ref cda) cc).locals = L := rfl
  have q7 : (ksEnv qual (defScope st) L fI' (.ref cda) cc).scope.kind = .function := TT.kind
  have q8 : (ksEnv qual (defScope st) L fI' (.ref cda) cc).globals = mainGlobals := rfl
  have q9 : (ksEnv qual (defScope st) L fI' (.ref cda) cc).builtins = builtinsNs := rfl
  have q10 : (ksEnv qual (defScope st) L fI' (.ref cda) cc).kindOf "self" = some .local := TT.lself
  have q11 : (ksEnv qual (defScope st) L fI' (.ref cda) cc).kindOf a = some .local := TT.la
  have q12 : (ksEnv qual (defScope st) L fI' (.ref cda) cc).kindOf b = some .local := TT.lb
  have q13 : interactive (ksEnv qual (defScope st) L fI' (.ref cda) cc) = false := by unfold interactive; rw [q7]; rfl
  refine ks_wpAt_mono (Q := fun f s' => f = .next ∧ ∃ h' dx t', s' = { s with heap := h', toks := t' } ∧ Made2 h0 h' xa C dx a b v w') (E := fun _ _ => False) ?_ (fun f s' hh => by
    obtain ⟨rfl, h', dx, t', rfl, md⟩ := hh
    exact hq h' dx t' md) fun _ _ z => z.elim
  generalize A.deeper _ = A'
  generalize ksEnv qual (defScope st) L fI' (.ref cda) cc = env at q1 q2 q3 q4 q5 q6 q7 q8 q9 q10 q11 q12 q13 ⊢
  rw [hb]
  refine ks_wpAt_execs_cons (ks_wpAt_Expr_any (ks_wpAt_MethodCall ?_ (call_form hpos)) q13 rfl)
  refine ks_wpAt_super_base q1 q2 (by decide) q3 (X1 _ _ hf) rfl har q4 (X1 _ _ hcd) rfl hvs hfile TT.top ?_
  obtain ⟨mbt, hblt, hbt⟩ := blt
  refine ks_loadName_global q7 q1 (loadGlobal_builtin (by rw [q8]; exact glob.keeps k1) T.nosuper (by rw [q9]; exact hblt.keeps k1) ((hbt _ (by decide)).trans boot_super) ⟨rfl, ?_⟩)
  refine wpAny_loadName_free q7 q2 q5 ⟨_, X1 _ _ hcell, rfl⟩ ?_
  rw [hself]
  refine wpAny_loadName_local q7 q10 (by rw [q6]; exact F1.ns) mself ?_
  obtain ⟨cd, hcl, hre, hdc⟩ := T.cls
  obtain ⟨oD, hD1, hD2⟩ : ∃ oD, h₁.get? C = some oD ∧ oD.data = .cls cd := by
    have hcl' := hcl
    unfold clsIn at hcl'
    split at hcl'
    · rename_i c d cd' sl ho
      cases hcl'
      exact ⟨_, X1 _ _ ho, rfl⟩
    · cases hcl'
  refine ks_wpAny_isType_cls hD1 hD2 ⟨rfl, ?_⟩
  have hx1 := (N1 _ (List.mem_singleton.mpr rfl)).1
  refine ks_wpAny_call_super hD1 hD2 hx1 rfl (fun c e => by cases e) (looks_mroIn X1 T.mro) (fun h2 e2 k2 => ?_)
  obtain ⟨F2, N2, l2⟩ := ks_newsPush F1 N1 (s := ⟨h₁, s.gens, s.drawn, s.toks, s.os⟩) rfl e2 k2
  refine kxs_method (m := m) (L := L) (h₀ := h0) (x := xa) (C := C) (D := C) kxs_ValueError F2 kin N2 (List.mem_cons_self) (InstAt.of_exc0 N2 (List.mem_cons_of_mem _ List.mem_cons_self)) T.third T.sup T.subV (by decide) (fun u h3 F3 N3 l3 => ?_)
  refine kxs_callWith1 (i := "ValueError.__init__") (x := xa) N3 List.mem_cons_self ?_
  refine spliced_more (wpAny_Name (wpAny_loadName_local q7 q11 (by rw [q6]; exact F3.ns) ma ?_) TT.nda)
  refine spliced_more (wpAny_Name (wpAny_loadName_local q7 q12 (by rw [q6]; exact F3.ns) mb ?_) TT.ndb)
  refine spliced_none ⟨kxs_at N3 List.mem_cons_self, ?_⟩
  have ne1 : u ≠ xa := fun z => by
    have y := l3 _ (List.mem_cons_of_mem _ List.mem_cons_self)
    rw [z] at y
    exact Nat.lt_irrefl _ y
  have ne2 : h₁.objs.size ≠ xa := fun z => by
    have y := l2 _ List.mem_cons_self
    rw [z] at y
    exact Nat.lt_irrefl _ y
  refine kxs_call (x := xa) (i := "ValueError.__init__") (B := "ValueError") F3 kin N3 F.excBase_ValueError T.exc List.mem_cons_self (.tail ne1 (.tail ne2 (.head (fun _ z => nomatch z)))) (by rw [sizeLine_eq]; show 2 ≤ 16777216; decide) (fun t4 h4 F4 N4 l4 => ?_)
  have hx4 : h4.get? xa = some (excObj C t4 none .none) := (N4 (xa, excObj C t4 none .none) (by simp)).1
  have L4 : L ≠ xa := fun z => (N1 _ (List.mem_singleton.mpr rfl)).2.1 z.symm
  have X4 : K.In h4 := kin.keeps F4.keep
  refine wpAt_of_wpAny ?_
  refine wpAny_execs_cons (plainObj_wpAny_Assign_Attribute (wpAny_Name (wpAny_loadName_local q7 q11 (by rw [q6]; exact F4.ns) ma ?_) TT.nda))
  refine wpAny_Name (wpAny_loadName_local q7 q10 (by rw [q6]; exact F4.ns) mself ?_)
  refine store_first X4 T.cls T.sa T.noA hx4 (fun h5 t5 dx k5 dn dne hx5 hn5 => ?_)
  have hns5 : h5.Ns L m := by
    obtain ⟨oL, es, ep, hL, r⟩ := F4.ns
    exact ⟨oL, es, ep, k5 _ _ L4 hL, r⟩
  have keep5 : ∀ q o, h0.get? q = some o → h5.get? q = some o := fun q o e => k5 q o (fun z => by rw [z, nx] at e; cases e) (F4.keep q o e)
  have X5 : K.In h5 := kin.keeps keep5
  have nd4 : ∀ {q : Addr} {o : Obj}, h4.get? q = some o → q ≠ dx := fun {q o} e => Nat.ne_of_lt (Nat.lt_of_lt_of_le (Heap.lt_size e) dn)
  have hw : Within (fun y => if y = a then some v else none) [a] := fun y hy => by
    by_cases e : y = a
    · rw [e]; exact List.mem_cons_self
    · simp only [if_neg e] at hy; exact absurd rfl hy
  refine wpAny_execs_cons (plainObj_wpAny_Assign_Attribute (wpAny_Name (wpAny_loadName_local q7 q12 (by rw [q6]; exact hns5) mb ?_) TT.ndb))
  refine wpAny_Name (wpAny_loadName_local q7 q10 (by rw [q6]; exact hns5) mself ?_)
  refine store_more X5 T.cls T.sa T.noB hx5 hn5 hw (by simp) (fun h6 t6 k6 hn6 => ?_)
  refine wpAny_execs_nil ⟨rfl, h6, dx, _, rfl, ?_⟩
  exact ⟨fun q o e => k6 q o (nd4 (F4.keep q o e)) (keep5 q o e), ⟨t4, k6 _ _ dne.symm hx5⟩, hn6, by
    cases e : h0.get? dx with
    | none => rfl
    | some o => exact absurd rfl (nd4 (F4.keep _ _ e)), nx, dne⟩
end
section
variable {X : Cx} {st : Stmt} {x a b : Str} {C : Addr}
set_option maxHeartbeats 4000000 in
theorem pmk_ini2 {p pos : Pos} {e1 e2 : Expr} {ta : TA} (T : Ini2 X.prog X.K X.mg st x a b C) (TT : IniT X.prog st a b) (hr : Room 2 X.A) (hg : Gl X x) (ha : PA X [e1, e2] ta) (hdb : (x == ("__debug__" : Str)) = false := by decide)
    (he : starEach [e1, e2] X.env = (false, eval e1 X.env) :: starEach [e2] X.env := by rfl) (hpl : (backTo pos (starEach [e2] X.env)).any (·.1) = false := by rfl) :
    PMk X (.Call (.Name x p) [e1, e2] [] pos) (fun σ H Q => ta σ H fun vs H1 => ∃ v1 v2, vs = [v1, v2] ∧ ∀ d, H1 d = none → Q (.ref C) (some d) (upd H1 d (.xd [(a, v1), (b, v2)]))) := by
  intro pins s σ H Q I h
  obtain ⟨fI, _, _, _, _, _, _, _, _, _, _, _, _, _, _, _, _, _, _, _, _, _, _, hini, htyp, _⟩ := T.fn
  refine wpAny_Call_Name_kw (ld_glob I hg T.glob ?_ hdb)
  refine PySem.W.callWith_K (h₀ := X.base) I.ok.mod.kin T.keep (thn (ha.run pos pins s σ H _ I h) fun us s1 ⟨vs, H1, I1, r1, v1, v2, ev, q1⟩ => ⟨I1.kIn, ?_⟩) he hpl
  show wpAny _ _ (call (.ref C) us) _ _ _
  subst ev
  obtain ⟨u1, us, rfl⟩ : ∃ u1 us', us = u1 :: us' := by cases r1; exact ⟨_, _, rfl⟩
  obtain ⟨ru1, r1⟩ : RelV v1 u1 ∧ Vals [v2] us := by cases r1; exact ⟨by assumption, by assumption⟩
  obtain ⟨u2, us, rfl⟩ : ∃ u1 us', us = u1 :: us' := by cases r1; exact ⟨_, _, rfl⟩
  obtain ⟨ru2, r1⟩ : RelV v2 u2 ∧ Vals [] us := by cases r1; exact ⟨by assumption, by assumption⟩
  obtain rfl : us = [] := by cases r1; rfl
  obtain ⟨hp, g, dr, tk, os⟩ := s1
  obtain ⟨nm, N', qn, bs, bm, hdct, sn, sub, ab, col, dd, k0, k1, k2, k3, k5, hC, hT⟩ := PySem.W.excInit_of I1.kIn T.exc
  have kk : ∀ q o, hp.get? q = some o → ((hp.push (PySem.W.kdv_tup [u1, u2])).push (PySem.HandSPX.excO C hp.objs.size)).get? q = some o := fun q o e => Heap.get?_push_of_some _ (Heap.get?_push_of_some _ e)
  have hget : ((hp.push (PySem.W.kdv_tup [u1, u2])).push (PySem.HandSPX.excO C hp.objs.size)).get? (hp.objs.size + 1) = some (PySem.HandSPX.excO C hp.objs.size) := by heap_get
  obtain ⟨mbt, hblt, hbt⟩ := I1.mod.blt
  refine wpAny_call (PySem.HandSPX.call_own F.excBase_ValueError hT hC (PySem.W.looks_findIn I1.kIn hini) (fun self => PySem.W.bind_fn I1.kIn self htyp) (by rw [sizeLine_eq]; show 2 ≤ 16777216; decide)
    (ini2_run (h0 := hp) (t0 := hp.objs.size) (v := u1) (w' := u2) T TT I1.kIn (I1.mod.glob.keeps I1.bk) ⟨mbt, hblt.keeps I1.bk, hbt⟩ I1.nolimit kk (by simp [Heap.size_push]; omega) hget (Heap.get?_none_of_le (Nat.le_succ _)) (hr.make C _ _).depth hini (fun h' dx t' md => ?_)))
  refine ⟨rfl, ?_⟩
  obtain ⟨t1, hobj⟩ := md.obj
  obtain ⟨G, g1, g2⟩ := restrict h' fun q => decide (q ≠ hp.objs.size + 1)
  have gk : ∀ q, q ≠ hp.objs.size + 1 → G.get? q = h'.get? q := fun q hq => g1 q (decide_eq_true hq)
  have ge : G.get? (hp.objs.size + 1) = none := g2 _ (by simp)
  have gn : ∀ q o, hp.get? q = some o → q ≠ hp.objs.size + 1 := fun q o e z => by rw [z, md.newX] at e; cases e
  have kG : ∀ q o, G.get? q = some o → h'.get? q = some o := fun q o e => by
    by_cases hq : q = hp.objs.size + 1
    · rw [hq, ge] at e; cases e
    · rw [gk q hq] at e; exact e
  have hd0 : H1 dx = none := I1.hok.gone md.newD
  have J : Inv X pins σ (upd H1 dx (.xd [(a, v1), (b, v2)])) { (⟨hp, g, dr, tk, os⟩ : Shared) with heap := G, toks := t' } := I1.laidN (fun q o e => (gk q (gn q o e)).trans (md.keep q o e)) md.newD hd0 (by
    refine ⟨_, md.ns.at fun o e => (gk dx md.ne).trans e, fun f => ?_⟩
    by_cases e1 : f = a
    · subst e1
      have nb : ¬ f = b := TT.nab
      simp only [List.lookup, beq_self_eq_true, if_neg nb, if_true]
      exact ru1
    · have e1' : (f == a) = false := by simpa using e1
      by_cases e2 : f = b
      · subst e2
        simp only [List.lookup, e1', beq_self_eq_true, if_true]
        exact ru2
      · have e2' : (f == b) = false := by simpa using e2
        simp only [List.lookup, e1', e2', if_neg e1, if_neg e2]
        exact True.intro)
  refine ⟨hp.objs.size + 1, _, _, _, _, .ref C, some dx, rfl, J, kG, ge, hobj, ⟨rfl, rfl⟩, rfl, rfl, ?_, rfl, I1.bare, raises_own T.sub T.typ, q1 dx hd0⟩
  rw [upd_ne (Ne.symm md.ne)]
  exact I1.hok.gone md.newX
end
end Pd

/-! Pd31: except clauses, several, with and without a name; X(a, b) raised, over data. -/
namespace Pd
open PySem PySem.Spec PyProof.Rows L2

/-- a clause: the class's value, the slot of its name, what its suite reads -/
abbrev Cls1 := Value × Option Nat × (Addr → Value → Option Addr → TS)
def inName (D : L2.Ends) : Option Nat → L2.Ends
  | none => D
  | some i => ⟨fun τ G => D.nx (τ.set i none) G, D.rt, fun τ G => D.bk (τ.set i none) G, fun τ G => D.ct (τ.set i none) G⟩
def atName (τ : L2.St) (p : Addr) : Option Nat → L2.St
  | none => τ
  | some i => τ.set i (some (.ref p))
def wMix (K : PySem.W.Frag) (n : Nat) (Wo : WX) (D : L2.Ends) : List Cls1 → WX
  | [] => Wo
  | (cv, nm, ts) :: r => fun k dd τ G => ∃ hit, PySem.W.exmOne K k cv = some hit ∧ (hit = true → τ.length = n → ∀ p, G p = none → ts p k dd (inName D nm) (atName τ p nm) G) ∧ (hit = false → wMix K n Wo D r k dd τ G)
inductive HdM (X : Cx) : List ExceptHandler → List Cls1 → Prop
  | nil : HdM X [] []
  | plain {x : Str} {cv : Value} {ts : Addr → Value → Option Addr → TS} {s0 : Stmt} {ss : List Stmt} {q1 q2 : Pos} {hl : List ExceptHandler} {cl : List Cls1} (names : Names X x cv)
      (run : ∀ (p : Addr) (ob : Obj) (k : Value) (dd : Option Addr) (pl : List (Addr × Obj)), Zc k dd ob → (∃ fs, ob.data = .fields fs) → PSs (X.suite p ((p, ob) :: pl)) (s0 :: ss) (ts p k dd)) (more : HdM X hl cl) :
      HdM X (.ExceptHandler (some (.Name x q1)) none (s0 :: ss) q2 :: hl) ((cv, none, ts) :: cl)
  | named {x n : Str} {i : Nat} {cv : Value} {ts : Addr → Value → Option Addr → TS} {s0 : Stmt} {ss : List Stmt} {q1 q2 : Pos} {hl : List ExceptHandler} {cl : List Cls1} (names : Names X x cv) (slot : X.N[i]? = some n) (loc : X.env.kindOf n = some .local)
      (run : ∀ (p : Addr) (ob : Obj) (k : Value) (dd : Option Addr) (pl : List (Addr × Obj)), Zc k dd ob → (∃ fs, ob.data = .fields fs) → PSs (X.suite p ((p, ob) :: pl)) (s0 :: ss) (ts p k dd)) (more : HdM X hl cl) :
      HdM X (.ExceptHandler (some (.Name x q1)) (some n) (s0 :: ss) q2 :: hl) ((cv, some i, ts) :: cl)
section
variable {X : Cx} {bd : List Stmt} {hd0 : ExceptHandler} {hl : List ExceptHandler} {cl : List Cls1} {tp : Pos} {tb : WX → TS} {Wo : WX}
set_option maxHeartbeats 4000000 in
theorem ps_try_mix (stk : X.stack = X.env :: X.outer) (frm : X.env.frame = some X.env.locals) (hN : X.N.Nodup) (tk : Takes X Wo)
    (hb : ∀ (W : WX) (pl : List (Addr × Obj)) (xx : Value → Shared → Prop), Takes (X.tr pl xx) W → PassesOwn (model X.prog X.w) X.A X.env xx → PSs (X.tr pl xx) bd (tb W))
    (hh : HdM X (hd0 :: hl) cl) : PS X (.Try bd (hd0 :: hl) [] [] tp) (fun D τ G => tb (wMix X.K X.N.length Wo D cl) D τ G) := by
  refine ⟨fun pins s τ G D J0 q0 => ?_⟩
  have okX := J0.ok
  have allF : X.A.frames = some (X.env :: X.outer) := by rw [okX.frames, stk]
  refine wpAny_Try_except ?_
  refine wpAny_mono ((hb (wMix X.K X.N.length Wo D cl) (X.pn ++ pins) (fun ev s1 => wpAny (model X.prog X.w) X.A (noteFrame ev X.env) (fun _ s2 => wpAny (model X.prog X.w) X.A (setFlight ev none) (fun _ s3 =>
    wpAny (model X.prog X.w) X.A (handleBy ev X.env (hd0 :: hl)) (SP X pins D) X.xe s3) X.xe s2) X.xe s1) (fun ev sv air => ?_) PassesOwn.looking).run [] s τ G D (J0.toTry _) q0) (fun fl s1 ended => ?_) (fun ev s1 z => z)
  · obtain ⟨p, B, sIn, pins', τ1, G1, k, dd, rfl, Jt, nB, upS, inSky, nG, sameOs, bareS, wish⟩ := air
    have J1 : Inv X pins τ1 G1 sIn := Jt.ofTry okX
    have inSky' : Sky B (X.env :: X.outer) p (Zc k dd) X.env.locals sv.heap := by rw [← stk]; exact inSky
    show wpAny (model X.prog X.w) X.A (noteFrame (.ref p) X.env) _ _ _
    refine Sky.land Zc.steady allF frm inSky' fun hp3 fly3 upL => ?_
    have J3 : Inv X pins τ1 G1 { sv with heap := hp3 } := J1.landed nB fly3.1 (upS.trans upL) sameOs bareS
    obtain ⟨ob3, fs3, at3, zc3, dt3⟩ := fly3.there
    have offF : p ∉ frs (X.env :: X.outer) := fun hm => by
      obtain ⟨_, o', e', nof⟩ := fly3.2.2.1.mem hm
      rw [at3] at e'
      cases e'
      exact nof _ dt3
    have offL : p ≠ X.env.locals := fun z => offF (List.mem_filterMap.mpr ⟨X.env, List.mem_cons_self, by rw [frm, z]⟩)
    have offFs : p ∉ X.fs := fun hm => by
      obtain ⟨en, men, q⟩ := List.mem_filterMap.mp hm
      exact offF (List.mem_filterMap.mpr ⟨en, List.mem_cons_of_mem _ men, q⟩)
    have Js := J3.suite at3 dt3 nG offL offFs
    have onward : ∀ {hl' : List ExceptHandler} {cl' : List Cls1}, HdM X hl' cl' → wMix X.K X.N.length Wo D cl' k dd τ1 G1 →
        wpAny (model X.prog X.w) X.A (handleBy (.ref p) X.env hl') (SP X pins D) X.xe { sv with heap := hp3 } := by
      have tested : ∀ {x : Str} {cv : Value} {q1 : Pos} {Q : Value → Shared → Prop} {E : Value → Shared → Prop}, Names X x cv → Q cv { sv with heap := hp3 } → wpAny (model X.prog X.w) (X.A.mark (some (.ref p))) (eval (.Name x q1) X.env) Q E { sv with heap := hp3 } := fun {x cv q1 Q E} nms q => by
        obtain ⟨isG, notD, there | ⟨nowhere, boot, notN⟩⟩ := nms
        · exact ld_glob (X := X.suite p ((p, ob3) :: (X.pn ++ pins))) Js isG there q notD
        · exact ld_blt (X := X.suite p ((p, ob3) :: (X.pn ++ pins))) Js isG nowhere boot q notN notD
      have lookT : PySem.W.Looks (model X.prog X.w) hp3 (typeOf (.ref p)) k := fun A Q E s kk q => wpAny_typeOf_ref (kk _ _ at3) (by rw [zc3.1]; exact q)
      intro hl' cl' hk
      induction hk with
      | nil =>
        intro wsh
        refine wpAny_handleBy_nil ?_
        obtain ⟨_, _, _, ob, fs, T, oT, ts', e1, e2, e3, e4, _⟩ := id fly3
        unfold PySem.passOn
        refine wpAny_bind (wpAny_field e1 e3 e4 ?_)
        rw [if_neg (show ¬ ((Value.ref T == Value.none) = true) from by simp)]
        have last : wpAny (model X.prog X.w) X.A (setFlight (.ref p) X.env.frame) (fun _ sz => wpAny (model X.prog X.w) X.A (throw (.ref p) : Sem Flow) (SP X pins D) X.xe sz) X.xe { sv with heap := hp3 } := by
          rw [frm]
          refine HandSPX.setFlight_upZ fly3 fun hp4 held4 up4 => wpAny_throw (tk _ _ ?_)
          exact ⟨p, B, sIn, pins, τ1, G1, k, dd, rfl, J1, nB, (upS.trans upL).trans up4, .inr (.inr (by rw [stk]; exact held4)), nG, sameOs, bareS, wsh⟩
        first
          | exact wpAny_bind (wpAny_pure (wpAny_bind last))
          | exact wpAny_bind last
      | @plain x cv ts s0 ss q1 q2 hl2 cl2 nms run more ih =>
        intro wsh
        obtain ⟨hit, h1, yes, no⟩ := wsh
        refine wpAny_handleBy_cons (codeAny_handlers_test ?_) (by intro z; cases z)
        refine tested nms ((PySem.W.exm_one (M := model X.prog X.w) (J3.kIn) lookT h1).here ?_)
        cases hit with
        | false => exact ih (no rfl)
        | true =>
          refine codeAny_handlers_suite ?_
          refine HandSPX.lands_againZ fly3 fun hp4 fly4 up4 => ?_
          have J4 : Inv X pins τ1 G1 { sv with heap := hp4 } := J1.landed nB fly4.1 ((upS.trans upL).trans up4) sameOs bareS
          obtain ⟨ob4, fs4, at4, zc4, dt4⟩ := fly4.there
          refine wpAny_mono ((run p ob4 k dd (X.pn ++ pins) zc4 ⟨_, dt4⟩).run [] _ _ G1 _ (J4.suite at4 dt4 nG offL offFs) (yes rfl J1.len p nG)) (fun fl sz q => ?_) (fun _ _ z => z.elim)
          cases fl with
          | ret u =>
            obtain ⟨v6, τ6, G6, J6, r6, q6⟩ := q
            exact ⟨_, _, _, J6.unsuite okX, r6, q6⟩
          | next =>
            obtain ⟨τ6, G6, J6, q6⟩ := q
            exact ⟨_, _, J6.unsuite okX, q6⟩
          | brk =>
            obtain ⟨τ6, G6, J6, q6⟩ := q
            exact ⟨_, _, J6.unsuite okX, q6⟩
          | cont =>
            obtain ⟨τ6, G6, J6, q6⟩ := q
            exact ⟨_, _, J6.unsuite okX, q6⟩
      | @named x n i cv ts s0 ss q1 q2 hl2 cl2 nms slot isL run more ih =>
        intro wsh
        obtain ⟨hit, h1, yes, no⟩ := wsh
        refine wpAny_handleBy_cons (codeAny_handlers_test ?_) (by intro z; cases z)
        refine tested nms ((PySem.W.exm_one (M := model X.prog X.w) (J3.kIn) lookT h1).here ?_)
        cases hit with
        | false => exact ih (no rfl)
        | true =>
          refine codeAny_handlers_suite_as ?_
          refine HandSPX.lands_againZ fly3 fun hp4 fly4 up4 => ?_
          have J4 : Inv X pins τ1 G1 { sv with heap := hp4 } := J1.landed nB fly4.1 ((upS.trans upL).trans up4) sameOs bareS
          obtain ⟨ob4, fs4, at4, zc4, dt4⟩ := fly4.there
          refine store_ok (X := X.suite p ((p, ob4) :: (X.pn ++ pins))) (v := .ref p) (J4.suite at4 dt4 nG offL offFs) hN slot (.inl isL) rfl (fun s5 J5 => ?_) (.inr isL)
          refine wpAny_mono ((run p ob4 k dd (X.pn ++ pins) zc4 ⟨_, dt4⟩).run [] s5 _ G1 _ J5 (yes rfl J1.len p nG)) (fun fl sz q => ?_) (fun _ _ z => z.elim)
          have goes : ∀ {τ6 : L2.St} {G6 : Hp} {Q : Shared → Prop}, Inv (X.suite p ((p, ob4) :: (X.pn ++ pins))) [] τ6 G6 sz → (∀ s7, Inv X pins (τ6.set i none) G6 s7 → Q s7) →
              wpAny (model X.prog X.w) X.A (do bindName X.env n .none; unbindBehindTheSuite X.env n q2) (fun _ s7 => Q s7) X.xe sz := fun {τ6 G6 Q} J6 hq => gone_ok (J6.unsuite okX) hN slot isL hq
          cases fl with
          | ret u =>
            obtain ⟨v6, τ6, G6, J6, r6, q6⟩ := q
            exact goes J6 fun s7 J7 => ⟨_, _, _, J7, r6, q6⟩
          | next =>
            obtain ⟨τ6, G6, J6, q6⟩ := q
            exact goes J6 fun s7 J7 => ⟨_, _, J7, q6⟩
          | brk =>
            obtain ⟨τ6, G6, J6, q6⟩ := q
            exact goes J6 fun s7 J7 => ⟨_, _, J7, q6⟩
          | cont =>
            obtain ⟨τ6, G6, J6, q6⟩ := q
            exact goes J6 fun s7 J7 => ⟨_, _, J7, q6⟩
    exact onward hh wish
  · cases fl with
    | ret u =>
      obtain ⟨v, τ1, G1, J1, r, q⟩ := ended
      exact ⟨v, τ1, G1, J1.ofTry okX, r, q⟩
    | next =>
      obtain ⟨τ1, G1, J1, q⟩ := ended
      exact wpAny_execs_nil ⟨τ1, G1, J1.ofTry okX, q⟩
    | brk =>
      obtain ⟨τ1, G1, J1, q⟩ := ended
      exact ⟨τ1, G1, J1.ofTry okX, q⟩
    | cont =>
      obtain ⟨τ1, G1, J1, q⟩ := ended
      exact ⟨τ1, G1, J1.ofTry okX, q⟩
end
end Pd

/-! Pd32: X(e, e) raised, over data; raised(lambda: ..), a def that tells which error came and what it keeps. -/
namespace Pd
open PySem PySem.Spec PyProof.Rows L2
section
variable {X : Cx} {W : WX} {Z : Ext} {CL : Calls} {ow0 : List Addr} {Hb : Hp}
def wRaise2 (x a b : Str) (w : WA) : WS := fun E ρ => w ρ (fun ys => match keeps ys with
  | some [d1, d2] => E.ex ⟨x, [(a, d1), (b, d2)]⟩ ρ
  | _ => False) (fun y => E.ex y ρ)
/-- a class whose exceptions keep two arguments -/
structure XCls2 (P : Program) (K : PySem.W.Frag) (mg : Str → Option Value) (x a b : Str) : Prop where
  ex : ∃ st C, Ini2 P K mg st x a b C ∧ IniT P st a b
theorem sim_raise2 {x a b : Str} {p pos pos' : Pos} {e1 e2 : Expr} {w : WA} (hc : X.calm = true) (tk : Takes X W) (hx : XCls2 X.prog X.K X.mg x a b) (hr : Room 2 X.A) (hg : Gl X x) (h : SimA X W Z CL ow0 Hb [e1, e2] w) (hdb : (x == ("__debug__" : Str)) = false := by decide)
    (he : starEach [e1, e2] X.env = (false, eval e1 X.env) :: starEach [e2] X.env := by rfl) (hpl : (backTo pos (starEach [e2] X.env)).any (·.1) = false := by rfl) :
    SimS X W Z CL ow0 Hb (.Raise (some (.Call (.Name x p) [e1, e2] [] pos)) none pos') (wRaise2 x a b w) := by
  intro S ρ σ H ow E D r w o
  obtain ⟨st, C, T, TT⟩ := hx.ex
  refine PSat.of (ps_raise hc tk (pmk_ini2 T TT hr hg PAat.pa hdb he hpl)) ?_
  refine h S ρ σ H ow _ (fun y => E.ex y ρ) _ r w (fun ys vs H1 p1 e1 z1 h1 => ?_) (o.bd r)
  split at p1
  · rename_i d1 d2 ed
    have ha := h1.keeps ed
    obtain ⟨v1, v2, rfl⟩ : ∃ v1 v2, vs = [v1, v2] := by
      cases ha with
      | cons a r => cases r with
        | cons b r => cases r with
          | nil => exact ⟨_, _, rfl⟩
    refine ⟨v1, v2, rfl, fun d nd => ?_⟩
    have s2 : SameBut (fp Z) H1 (upd H1 d (.xd [(a, v1), (b, v2)])) := .new nd
    refine o.ex _ ρ σ _ ow _ _ p1 ((r.step e1 z1).step s2 (z1.le (Le.new nd))) ⟨⟨C, T.glob, rfl⟩, fun _ => ⟨d, _, rfl, upd_same, rfl, ?_⟩⟩
    exact DtAll.mono (hid_mono s2 r.gr.fpo fun _ m => .inl m) ha
  · exact p1.elim
end

/-! ### the clauses that tell -/
/-- what is wished of an exception by clauses that hand back (word, field, field) -/
def wCatch (K : PySem.W.Frag) (Q : VK) : List (Addr × Str × List Str) → XK
  | [] => fun _ _ _ => False
  | (CS, wd, fs) :: r => fun cls d H => ∃ b, PySem.W.exmOne K cls (.ref CS) = some b ∧
    (b = true → ∃ vs : List V, vs.length ≤ 4 ∧ (fs = [] → vs = []) ∧ (fs ≠ [] → ∃ dd kvs, cls = .ref CS ∧ d = some dd ∧ H dd = some (.xd kvs) ∧ fs.map (fun f => kvs.lookup f) = vs.map some) ∧ ∀ p, H p = none → Q (.ref p) (upd H p (.tup (.str wd :: vs)))) ∧ (b = false → wCatch K Q r cls d H)
structure CatchOk (X : Cx) (hl : List ExceptHandler) (cs : List (Addr × Str × List Str)) : Prop where
  ok : ∃ cl, HdM X hl cl ∧ ∀ (D : L2.Ends) (Q : VK) (k : Value) (dd : Option Addr) (τ : L2.St) (G : Hp), (∀ v H', Q v H' → D.rt v H') → wCatch X.K Q cs k dd G → wMix X.K X.N.length (fun _ _ _ _ => False) D cl k dd τ G
section
variable {X : Cx} {hl : List ExceptHandler} {cs : List (Addr × Str × List Str)}
theorem CatchOk.nil : CatchOk X [] [] := ⟨[], .nil, fun _ _ _ _ _ _ _ h => h⟩
theorem CatchOk.plain {x wd : Str} {CS : Addr} {q1 p5 p6 p7 p11 : Pos} {j k2} (nm : Names X x (.ref CS)) (r : CatchOk X hl cs) :
    CatchOk X (.ExceptHandler (some (.Name x q1)) none [.Return (some (.Tuple [.Constant (.str wd) j p5] k2 p11)) p6] p7 :: hl) ((CS, wd, []) :: cs) := by
  obtain ⟨cl, h, hw⟩ := r.ok
  refine ⟨_, .plain nm (fun p ob k dd pl _ _ => pss_one (ps_ret (pe_tup (pa_cons pe_str pa_nil)))) h, fun D Q k dd τ G hD w => ?_⟩
  obtain ⟨b, e, yes, no⟩ := w
  refine ⟨b, e, fun hb _ p np => ?_, fun hb => hw D Q k dd τ G hD (no hb)⟩
  obtain ⟨vs, _, e0, _, hq⟩ := yes hb
  obtain rfl := e0 rfl
  exact ⟨by show 1 ≤ sizeLine; rw [sizeLine_eq]; decide, fun q hq' => hD _ _ (hq q hq')⟩
theorem CatchOk.two {x n wd f1 f2 : Str} {i : Nat} {CS : Addr} {q1 p5 p6 p7 p8 p9 p10 p11 p12 : Pos} {j k2} (nm : Names X x (.ref CS)) (slot : X.N[i]? = some n) (loc : X.env.kindOf n = some .local) (vis : Vis X.env.scope n) (F : XfC X.K CS) (no1 : PySem.W.findIn X.K (.ref CS) f1 = some none) (no2 : PySem.W.findIn X.K (.ref CS) f2 = some none) (r : CatchOk X hl cs)
    (b1 : attributeBase (.Name n p8) f1 X.env (eval (.Name n p8) X.env) = eval (.Name n p8) X.env := by rfl) (b2 : attributeBase (.Name n p10) f2 X.env (eval (.Name n p10) X.env) = eval (.Name n p10) X.env := by rfl)
    (hd : (n == ("__debug__" : Str)) = false := by decide) (hcd : (n == ("__classdict__" : Str)) = false := by decide) :
    CatchOk X (.ExceptHandler (some (.Name x q1)) (some n) [.Return (some (.Tuple [.Constant (.str wd) j p5, .Attribute (.Name n p8) f1 p9, .Attribute (.Name n p10) f2 p12] k2 p11)) p6] p7 :: hl) ((CS, wd, [f1, f2]) :: cs) := by
  obtain ⟨cl, h, hw⟩ := r.ok
  refine ⟨_, .named nm slot loc (fun p ob k dd pl hz hf => pss_one (ps_ret (pe_tup (pa_cons pe_str (pa_cons (pe_xf F no1 hz hf (pe_var (i := i) slot vis hd hcd) b1) (pa_cons (pe_xf F no2 hz hf (pe_var (i := i) slot vis hd hcd) b2) pa_nil)))))) h, fun D Q k dd τ G hD w => ?_⟩
  obtain ⟨b, e, yes, no⟩ := w
  refine ⟨b, e, fun hb hlen p np => ?_, fun hb => hw D Q k dd τ G hD (no hb)⟩
  obtain ⟨vs, _, _, e1, hq⟩ := yes hb
  obtain ⟨d, kvs, rfl, rfl, hd, hm⟩ := e1 (by simp)
  obtain ⟨v1, v2, rfl, l1, l2⟩ : ∃ v1 v2, vs = [v1, v2] ∧ kvs.lookup f1 = some v1 ∧ kvs.lookup f2 = some v2 := by
    have hl := congrArg List.length hm
    simp only [List.length_map, List.length_cons, List.length_nil] at hl
    obtain ⟨v1, v2, rfl⟩ : ∃ v1 v2, vs = [v1, v2] := by
      cases vs with
      | nil => simp at hl
      | cons v1 r => cases r with
        | nil => simp at hl
        | cons v2 r => cases r with
          | nil => exact ⟨v1, v2, rfl⟩
          | cons _ _ => simp at hl
    simp only [List.map_cons, List.map_nil, List.cons.injEq, and_true] at hm
    exact ⟨v1, v2, rfl, hm.1, hm.2⟩
  have hi : i < τ.length := by
    rw [hlen]
    exact (List.getElem?_eq_some_iff.mp slot).1
  have at1 : (atName τ p (some i))[i]? = some (some (.ref p)) := List.getElem?_set_self hi
  exact ⟨.ref p, at1, rfl, rfl, d, kvs, v1, rfl, hd, l1, .ref p, at1, rfl, rfl, d, kvs, v2, rfl, hd, l2, by show 3 ≤ sizeLine; rw [sizeLine_eq]; decide, fun q hq' => hD _ _ (hq q hq')⟩
theorem CatchOk.one {x n wd f1 : Str} {i : Nat} {CS : Addr} {q1 p5 p6 p7 p8 p9 p11 : Pos} {j k2} (nm : Names X x (.ref CS)) (slot : X.N[i]? = some n) (loc : X.env.kindOf n = some .local) (vis : Vis X.env.scope n) (F : XfC X.K CS) (no1 : PySem.W.findIn X.K (.ref CS) f1 = some none) (r : CatchOk X hl cs)
    (b1 : attributeBase (.Name n p8) f1 X.env (eval (.Name n p8) X.env) = eval (.Name n p8) X.env := by rfl)
    (hd : (n == ("__debug__" : Str)) = false := by decide) (hcd : (n == ("__classdict__" : Str)) = false := by decide) :
    CatchOk X (.ExceptHandler (some (.Name x q1)) (some n) [.Return (some (.Tuple [.Constant (.str wd) j p5, .Attribute (.Name n p8) f1 p9] k2 p11)) p6] p7 :: hl) ((CS, wd, [f1]) :: cs) := by
  obtain ⟨cl, h, hw⟩ := r.ok
  refine ⟨_, .named nm slot loc (fun p ob k dd pl hz hf => pss_one (ps_ret (pe_tup (pa_cons pe_str (pa_cons (pe_xf F no1 hz hf (pe_var (i := i) slot vis hd hcd) b1) pa_nil))))) h, fun D Q k dd τ G hD w => ?_⟩
  obtain ⟨b, e, yes, no⟩ := w
  refine ⟨b, e, fun hb hlen p np => ?_, fun hb => hw D Q k dd τ G hD (no hb)⟩
  obtain ⟨vs, _, _, e1, hq⟩ := yes hb
  obtain ⟨d, kvs, rfl, rfl, hd, hm⟩ := e1 (by simp)
  obtain ⟨v1, rfl, l1⟩ : ∃ v1, vs = [v1] ∧ kvs.lookup f1 = some v1 := by
    have hl := congrArg List.length hm
    simp only [List.length_map, List.length_cons, List.length_nil] at hl
    obtain ⟨v1, rfl⟩ : ∃ v1, vs = [v1] := by
      cases vs with
      | nil => simp at hl
      | cons v1 r => cases r with
        | nil => exact ⟨v1, rfl⟩
        | cons _ _ => simp at hl
    simp only [List.map_cons, List.map_nil, List.cons.injEq, and_true] at hm
    exact ⟨v1, rfl, hm⟩
  have hi : i < τ.length := by
    rw [hlen]
    exact (List.getElem?_eq_some_iff.mp slot).1
  have at1 : (atName τ p (some i))[i]? = some (some (.ref p)) := List.getElem?_set_self hi
  exact ⟨.ref p, at1, rfl, rfl, d, kvs, v1, rfl, hd, l1, by show 2 ≤ sizeLine; rw [sizeLine_eq]; decide, fun q hq' => hD _ _ (hq q hq')⟩
end
/-- try: return (told, act()), clauses that tell -/
def TCatch (K : PySem.W.Frag) (cs : List (Addr × Str × List Str)) (told : Str) : (XK → Hp → VK → Prop) → Hp → VK → Prop := fun tl H Q =>
  tl (wCatch K Q cs) H fun v H' => [V.str told, v].length ≤ sizeLine ∧ ∀ p, H' p = none → Q (.ref p) (upd H' p (.tup [.str told, v]))
theorem catch_gives {X : Cx} {Ng : List Str} {x a q told : Str} {sg : Scope} {g : Addr} {cdg : Value} {j k1 : Nat} {p1 p2 p3 p8 p9 p10 : Pos} {h0 : ExceptHandler} {hl : List ExceptHandler} {cs : List (Addr × Str × List Str)} (hN : Ng.Nodup)
    (hcs : ∀ (s : Shared) (H : Hp), CatchOk (cxOf C8.CX0 X.prog X.w X.K X.mg X.base Ng x sg g cdg X.A X.stack s H C8.E0).nox (h0 :: hl) cs) (s0 : ∀ f : Addr, (L2.start Ng [V.ref f])[0]? = some (some (V.ref f))) :
    LamX.GivesTo X Ng x sg g cdg [.Try [.Return (some (.Tuple [.Constant (.str told) j p9, .Call (.Name a p1) [] [] p2] k1 p10)) p3] (h0 :: hl) [] [] p8] a q (TCatch X.K cs told) := by
  intro f c' s H Q tl act hc hyp
  obtain ⟨cl, hM, hw⟩ := (hcs s H).ok
  refine ⟨_, pss_one (ps_try_mix (X := (cxOf C8.CX0 X.prog X.w X.K X.mg X.base Ng x sg g cdg X.A X.stack s H C8.E0).nox) (Wo := fun _ _ _ _ => False)
      (tb := fun W D σ H => ∃ Ech : XK, (∀ cls d σ' H', Ech cls d H' → W cls d σ' H') ∧ σ[0]? = some (some (.ref f)) ∧ H c' = some (LamX.CodeO c' q) ∧ tl Ech H fun v H' => [V.str told, v].length ≤ sizeLine ∧ ∀ p, H' p = none → D.rt (.ref p) (upd H' p (.tup [.str told, v])))
      rfl rfl hN LamX.takes0 (fun W pn xe tk _ => ?_) hM), ?_⟩
  · refine ⟨fun pins s' σ H' D I ⟨Ech, hW, at0, code, run⟩ => ?_⟩
    exact (pss_one (ps_ret (pos := p3) (pe_tup (pa_cons pe_str (pa_cons (act W pn xe Ech p1 p2 tk hW) pa_nil))))).run pins s' σ H' D I ⟨at0, code, run⟩
  · exact ⟨wCatch X.K Q cs, fun cls d σ' H' w => hw _ Q cls d σ' H' (fun v H' h => h) w, s0 f, hc, hyp⟩

/-- what the clauses hand back of an exception; cs: class, word, fields -/
abbrev Clz := List (Str × Str × List Str)
def lookAll (args : List (Str × D)) : List Str → Option (List D)
  | [] => some []
  | f :: fs => match args.lookup f, lookAll args fs with
    | some d, some ds => some (d :: ds)
    | _, _ => none
def tells (x : Xn) : Clz → Option D
  | [] => none
  | (c, wd, fs) :: r => if x.cls = c then (lookAll x.args fs).map fun ds => .tuple (.str wd :: ds) else tells x r
def wRaised (told : Str) (cs : Clz) (we : WE) : WE := fun ρ P _ => we ρ (fun y => match y.kp with
  | some d => P (.d (.tuple [.str told, d]))
  | none => False) fun x => match tells x cs with
    | some d => P (.d d)
    | none => False
/-- the clauses' classes stand, and tell their exceptions apart -/
def Apart (K : PySem.W.Frag) (mg : Str → Option Value) (xs : List Str) : Clz → List (Addr × Str × List Str) → Prop
  | [], [] => True
  | (c, wd, fs) :: r, (CS, wd', fs') :: r' => wd' = wd ∧ fs' = fs ∧ fs.length ≤ 4 ∧ mg c = some (.ref CS) ∧ (∀ e ∈ xs, ∀ C, mg e = some (.ref C) → PySem.W.exmOne K (.ref C) (.ref CS) = some (decide (e = c))) ∧ Apart K mg xs r r'
  | _, _ => False
theorem lookAll_ok {K : PySem.W.Frag} {H : Hp} {args : List (Str × D)} {kvs : List (Str × V)} (hn : kvs.map (·.1) = args.map (·.1)) (ha : DtAll K H (kvs.map (·.2)) (args.map (·.2))) :
    ∀ {fs : List Str} {ds : List D}, lookAll args fs = some ds → ∃ vs, fs.map (fun f => kvs.lookup f) = vs.map some ∧ DtAll K H vs ds
  | [], ds, e => by cases e; exact ⟨[], rfl, .nil⟩
  | f :: fs, ds, e => by
    unfold lookAll at e
    cases e1 : args.lookup f with
    | none => rw [e1] at e; cases e
    | some d =>
      cases e2 : lookAll args fs with
      | none => rw [e1, e2] at e; cases e
      | some ds' =>
        rw [e1, e2] at e
        cases e
        obtain ⟨vs, h1, h2⟩ := lookAll_ok hn ha e2
        have one : ∀ {args : List (Str × D)} {kvs : List (Str × V)}, kvs.map (·.1) = args.map (·.1) → DtAll K H (kvs.map (·.2)) (args.map (·.2)) → args.lookup f = some d → ∃ v, kvs.lookup f = some v ∧ Dt K H v d := by
          intro args
          induction args with
          | nil => intro kvs _ _ z; cases z
          | cons p r ih =>
            intro kvs hn ha z
            cases kvs with
            | nil => cases hn
            | cons q s =>
              obtain ⟨qn, qv⟩ := q
              obtain ⟨pn, pd⟩ := p
              simp only [List.map_cons, List.cons.injEq] at hn
              obtain ⟨rfl, hn⟩ := hn
              simp only [List.map_cons] at ha
              cases ha with
              | cons hv hr =>
                by_cases e : f = qn
                · subst e
                  simp only [List.lookup, beq_self_eq_true] at z ⊢
                  cases z
                  exact ⟨_, rfl, hv⟩
                · have e' : (f == qn) = false := by simpa using e
                  simp only [List.lookup, e'] at z ⊢
                  exact ih hn hr z
        obtain ⟨v, g1, g2⟩ := one hn ha e1
        exact ⟨v :: vs, by simp [g1, h1], .cons g2 h2⟩
theorem lookAll_len {args : List (Str × D)} : ∀ {fs : List Str} {ds : List D}, lookAll args fs = some ds → ds.length = fs.length
  | [], ds, e => by cases e; rfl
  | f :: fs, ds, e => by
    unfold lookAll at e
    cases e1 : args.lookup f with
    | none => rw [e1] at e; cases e
    | some d =>
      cases e2 : lookAll args fs with
      | none => rw [e1, e2] at e; cases e
      | some ds' =>
        rw [e1, e2] at e
        cases e
        simp [lookAll_len e2]
section
variable {X : Cx} {W : WX} {Z : Ext} {CL : Calls} {ow0 : List Addr} {Hb : Hp}
theorem wCatch_of {xs : List Str} {x : Xn} {Q : VK} {cls : Value} {d : Option Addr} {ow : List Addr} {H : Hp} {dt : D} (hx : x.cls ∈ xs) (er : ExR X.K ow X.mg x cls d H)
    (hq : ∀ vs ds, DtAll X.K (hid ow H) vs ds → dt = .tuple ds → ∀ p, H p = none → Q (.ref p) (upd H p (.tup vs))) :
    ∀ {cs : Clz} {hs : List (Addr × Str × List Str)}, Apart X.K X.mg xs cs hs → tells x cs = some dt → wCatch X.K Q hs cls d H
  | [], _, _, e => by cases e
  | (c, wd, fs) :: r, (CS, wd', fs') :: r', ⟨e1, e2, hl, hc, ap, more⟩, e => by
    subst e1
    subst e2
    obtain ⟨⟨C, hC, rfl⟩, args⟩ := er
    refine ⟨_, ap x.cls hx C hC, fun hb => ?_, fun hb => ?_⟩
    · have hcls : x.cls = c := of_decide_eq_true hb
      unfold tells at e
      rw [if_pos hcls] at e
      obtain ⟨ds, l1, l2⟩ := Option.map_eq_some_iff.mp e
      rw [hcls, hc] at hC
      obtain rfl : CS = C := Value.ref.inj (Option.some.inj hC)
      cases fs' with
      | nil =>
        cases l1
        exact ⟨[], by decide, fun _ => rfl, fun z => (z rfl).elim, hq _ _ (.cons (.str wd') .nil) l2.symm⟩
      | cons f fs =>
        have ne : x.args ≠ [] := by
          intro z
          unfold lookAll at l1
          rw [z] at l1
          cases l1
        obtain ⟨dx, kvs, rfl, h1, h2, h3⟩ := args ne
        obtain ⟨vs, g1, g2⟩ := lookAll_ok h2 h3 l1
        exact ⟨vs, by have := g2.length; rw [this, lookAll_len l1]; exact hl, (fun z => by cases z), fun _ => ⟨dx, kvs, rfl, rfl, h1, g1⟩, hq _ _ (.cons (.str wd') g2) l2.symm⟩
    · have hcls : ¬ x.cls = c := of_decide_eq_false hb
      unfold tells at e
      rw [if_neg hcls] at e
      exact wCatch_of hx ⟨⟨C, hC, rfl⟩, args⟩ hq more e
theorem sim_raised {x a told : Str} {g c P : Addr} {k : Nat} {st : Stmt} {fd : FuncData} {Ng : List Str} {xs : List Str} {cs : Clz} {hs : List (Addr × Str × List Str)} {params : Arguments} {body : Expr} {scope : Scope} {we : WE} {p lpos pos : Pos} (F : Fun X.K x x st g fd) (hg : Gl X x) (hm : X.mg x = some (.ref g)) (hb : L2.Binds X.K fd [a] []) (SG : FnScope Ng [a] (defScope st)) (hNg : Ng[0]? = some a) (hva : Vis (defScope st) a)
    (hG : ∀ (cdg : Value) (q : Str), LamX.GivesTo X Ng x (defScope st) g cdg (defBody st) a q (TCatch X.K hs told)) (hap : Apart X.K X.mg xs cs hs) (hcl : ∀ c wd fs, (c, wd, fs) ∈ cs → c ∈ xs)
    (TB : LamX.TabB X.base X.mg c P) (hcode : X.env.code = .ref c) (hmT : (P, X.env.qual ++ "<lambda>") ∈ Z.tabs) (hu : ∀ p ∈ Z.tabs, p.1 = P → p.2 = X.env.qual ++ "<lambda>") (hr : Room (k + 2) X.A) (L : LamX.LamS X.env.scope scope) (hdef : defaultsOf params X.env = ([], []))
    (hbind : ∀ (q : Str) (cl : List (Str × Addr)) (pm cv ctv : Value), bindArgs (PySem.W.kla_fn "<lambda>" q params body scope cl pm cv ctv) ⟨[], []⟩ = pure [])
    (hbody : InLam X scope k fun Y E => SimE Y (fun cls d _ H' => E cls d H') Z CL ow0 Hb body we)
    (hdb : (x == ("__debug__" : Str)) = false := by decide) (hd : (a == ("__debug__" : Str)) = false := by decide) (hcd : (a == ("__classdict__" : Str)) = false := by decide) :
    SimE X W Z CL ow0 Hb (.Call (.Name x p) [.Lambda params body scope lpos] [] pos) (wRaised told cs we) := by
  intro S ρ σ H ow R Ex Q r w gd bd
  obtain ⟨oc, od, kV, doc, pm, an, cdv, ct, osl, rfl, lk, hcd'⟩ := F.ex
  refine PEat.of (LamX.pe_lamcall (t := fun E σ H Q => InLam X scope k fun Y E' => E' = E → PEat Y body σ H Q) hg hm F.kp lk hcd' hb SG hNg hva (hG cdv _) TB hcode hmT hu hr L hdef hbind (fun A outer s H E f c' hr' => ⟨fun pins s' σ H Q I h => (h A outer s _ E f c' hr' rfl).go pins s' I⟩) hdb hd hcd) ?_
  refine ⟨r.gr.ext.tabs, fun H1 eN T1 => ?_⟩
  have e1 : SameBut (fp Z) H H1 := extN_same eN
  have z1 : RZ Z H1 := r.gr.ext.extN eN T1
  have r1 := r.step e1 z1
  have g1 := gd.step e1 r.gr.fpo
  intro A outer s0 H0 E f c' hr' hE
  subst hE
  refine hbody A outer s0 H0 _ f c' hr' S ρ σ H1 ow _ _ _ r1 w (fun y v H2 p2 e2 z2 h2 => ?_) (fun ex cls d H2 p2 er e2 z2 => ?_)
  · split at p2
    · rename_i d ed
      exact ⟨by show 2 ≤ sizeLine; rw [sizeLine_eq]; omega, fun q hq => (g1.step e2 r.gr.fpo).tup p2 (r1.gr.step e2 z2) hq (.cons (.str _) (.cons (h2.kp ed) .nil))⟩
    · exact p2.elim
  · split at p2
    · rename_i dt et
      have hx : ex.cls ∈ xs := by
        have go : ∀ {l : Clz}, (∀ c wd fs, (c, wd, fs) ∈ l → c ∈ xs) → tells ex l = some dt → ex.cls ∈ xs := by
          intro l
          induction l with
          | nil => intro _ z; cases z
          | cons h t ih =>
            intro hl z
            obtain ⟨c, wd, fs⟩ := h
            unfold tells at z
            by_cases e : ex.cls = c
            · rw [e]; exact hl c wd fs List.mem_cons_self
            · rw [if_neg e] at z
              exact ih (fun c wd fs m => hl c wd fs (List.mem_cons_of_mem _ m)) z
        exact go hcl et
      exact wCatch_of hx er (fun vs ds ha e q hq => by subst e; exact (g1.step e2 r.gr.fpo).tup p2 (r1.gr.step e2 z2) hq ha) hap et
    · exact p2.elim
end
end Pd

/-! Pd33: x[::-1] of tuples and lists. -/
namespace Pd
open PySem PySem.Spec PyProof.Rows L2
section
variable {prog : Program} {w : World} {A : Around} {E : Value → Shared → Prop} {s : Shared}
theorem back_adjust (n : Nat) : Builtin.Slice.sliceAdjust none none (-1) (n : Int) = ((n : Int) - 1, -1) := by
  unfold Builtin.Slice.sliceAdjust
  simp
theorem back_places (n : Nat) : Builtin.Slice.slicePlaces ((n : Int) - 1) (-1) (-1) = n := by
  unfold Builtin.Slice.slicePlaces
  have neg1 : ¬ ((-1 : Int) > 0) := by decide
  simp only [neg1, if_false]
  by_cases h : (n : Int) - 1 > -1
  · rw [if_pos h]
    have e : ((n : Int) - 1 - -1 - 1) / (- -1) = (n : Int) - 1 := by
      rw [show (- -1 : Int) = 1 by decide, Int.ediv_one]; omega
    rw [e]; omega
  · rw [if_neg h]; omega
theorem back_pick (xs : Array Value) : ((List.range xs.size).filterMap fun (m : Nat) => xs[(((xs.size : Nat) : Int) - 1 + (m : Int) * (-1)).toNat]?).toArray = xs.toList.reverse.toArray := by
  have e : ∀ m ∈ List.range xs.size, xs[(((xs.size : Nat) : Int) - 1 + (m : Int) * (-1)).toNat]? = xs[xs.size - 1 - m]? := by
    intro m hm
    have := List.mem_range.mp hm
    have h : (((xs.size : Nat) : Int) - 1 + (m : Int) * (-1)).toNat = xs.size - 1 - m := by omega
    rw [h]
  have e1 : (List.range xs.size).filterMap (fun (m : Nat) => xs[(((xs.size : Nat) : Int) - 1 + (m : Int) * (-1)).toNat]?) = (List.range xs.size).filterMap (fun m => xs[xs.size - 1 - m]?) := by
    generalize List.range xs.size = l at e
    induction l with
    | nil => rfl
    | cons a r ih => rw [List.filterMap_cons, List.filterMap_cons, e a List.mem_cons_self, ih fun m hm => e m (List.mem_cons_of_mem _ hm)]
  rw [e1]
  have e2 : (List.range xs.size).filterMap (fun m => xs[xs.size - 1 - m]?) = ((List.range xs.size).map (fun k => xs.size - 1 - k)).filterMap (xs[·]?) := by rw [List.filterMap_map]; rfl
  rw [e2, PySem.W.krv_range, List.filterMap_reverse, PySem.W.krv_all]
theorem back_tuple {t sl : Addr} {items : Array Value} {vl vu vs : Value} {Q : Value → Shared → Prop} (ht : IsTup s.heap t items) (hs : s.heap.IsSliceOf sl vl vu vs) (pl : IsPart vl none) (pu : IsPart vu none) (pv : IsPart vs (some (-1)))
    (hq : Q (.ref s.heap.objs.size) { s with heap := s.heap.push { cls := .type "tuple", data := .seq items.toList.reverse.toArray } }) (hsz : items.size ≤ sizeLine) : wpAny (model prog w) A (getItem (.ref t) (.ref sl)) Q E s := by
  have hlim : sizeOk (.seq items.toList.reverse.toArray) := by
    show items.toList.reverse.toArray.size ≤ sizeLine
    rw [List.size_toArray, List.length_reverse, Array.length_toList]
    exact hsz
  obtain ⟨so, hos, hcs, hds⟩ := id hs
  have isS : s.TypeIs (.ref sl) "slice" := ⟨so, hos, hcs⟩
  unfold getItem
  (try with_reducible refine wpAny_holding ?_); (first | refine wpAny_bind (wpAny_pure ?_) | skip)
  refine wpAny_bind (wpAny_sequenceKey ht.typeIs (by decide) ?_)
  refine wpAny_bind (wpAny_callSpecial?_slot (name := Str.ofString "__getitem__") ht.typeIs PyProof.Rows.slot_tuple_getitem (wpAny_call_entry PyProof.Rows.slot_tuple_getitem ht.typeIs entry_tuple_getitem ?_ (args_tuple_getitem _ _)))
  show wpAny _ _ (Builtin.Tuple.tupleItemsOf (.ref t) >>= _) _ _ s
  refine wpAny_bind (PyProof.Rows.tupleItemsOf_ ht (wpAny_bind (wpAny_typeOf isS ?_)))
  rw [if_pos (by decide)]
  have ap : ∀ {Q' : Int × Int × Nat → Shared → Prop} {A' : Around} {E' : Value → Shared → Prop}, Q' (((items.size : Nat) : Int) - 1, -1, items.size) s → wpAny (model prog w) A' (Builtin.Slice.sliceApplied (.ref sl) (pure ((items.size : Nat) : Int))) Q' E' s := by
    intro Q' A' E' q
    unfold Builtin.Slice.sliceApplied Builtin.Slice.sliceFields
    refine wpAny_bind (wpAny_bind (wpAny_field hos hds (x := vl) rfl (wpAny_bind (wpAny_field hos hds (x := vu) rfl (wpAny_bind (wpAny_field hos hds (x := vs) rfl (wpAny_pure ?_)))))))
    refine wpAny_bind (HT.slicePart_ pv ?_)
    show wpAny _ _ (if ((-1 : Int) == 0) = true then _ else _) _ _ s
    rw [if_neg (by decide)]
    refine wpAny_bind (HT.slicePart_ pl (wpAny_bind (HT.slicePart_ pu (wpAny_bind (wpAny_pure ?_)))))
    show wpAny _ _ (match Builtin.Slice.sliceAdjust none none (-1) ((items.size : Nat) : Int) with | (lo, hi) => pure (lo, (-1 : Int), Builtin.Slice.slicePlaces lo hi (-1))) _ _ s
    rw [back_adjust]
    show wpAny _ _ (pure (((items.size : Nat) : Int) - 1, (-1 : Int), Builtin.Slice.slicePlaces (((items.size : Nat) : Int) - 1) (-1) (-1))) _ _ s
    rw [back_places]
    exact wpAny_pure q
  refine wpAny_bind (ap ?_)
  show wpAny _ _ (if (((items.size : Nat) : Int) - 1 == 0 && (-1 : Int) == 1 && items.size == items.size) = true then _ else _) _ _ s
  rw [if_neg (by simp), back_pick]
  exact wpAny_bind (m := Builtin.Tuple.tupleExact _) (wpAny_newObj_type (wpAny_pure ⟨_, rfl, wpAny_pure hq⟩) hlim)
end
section
variable {X : Cx}
/-- t[::-1] of a tuple -/
def tRevT (K : PySem.W.Frag) (te : TE) : TE := fun σ H Q => te σ H fun x H1 => ∃ a xs, x = .ref a ∧ ((SqT K H1 a xs ∧ ∀ p, H1 p = none → Q (.ref p) (upd H1 p (.tup xs.reverse))) ∨ (SqL K H1 a xs ∧ ∀ p, H1 p = none → Q (.ref p) (upd H1 p (.lst xs.reverse))))
theorem pe_revT {e : Expr} {te : TE} {k : Nat} {p1 p2 p3 pos : Pos} (he : PE X e te) : PE X (.Subscript e (.Slice none none (some (.UnaryOp .USub (.Constant (.int 1) k p1) p2)) p3) pos) (tRevT X.K te) := by
  refine ⟨fun pins s σ H Q I h => ?_⟩
  refine Subscript_ (thn (he.run pins s σ H _ I h) fun v s1 ⟨x, H1, I1, r1, q1⟩ => ?_)
  obtain ⟨a, xs, rfl, hx⟩ := q1
  cases r1
  have step : PO X (some (.UnaryOp .USub (.Constant (.int 1) k p1) p2)) (tPart (tUn (rU fun i => .int (-i)) (tC (.int 1)))) := po_some (pe_un un_neg pe_int)
  refine wpAny_Slice (thn (po_none.run pins s1 σ H1 (fun o G => o = none ∧ G = H1) I1 ⟨rfl, rfl⟩) fun vl s2 ⟨_, _, I2, pl, rfl, rfl⟩ => ?_)
  refine thn (po_none.run pins s2 σ _ (fun o G => o = none ∧ G = _) I2 ⟨rfl, rfl⟩) fun vu s3 ⟨_, _, I3, pu, rfl, rfl⟩ => ?_
  refine thn (step.run pins s3 σ _ (fun o G => o = some (-1) ∧ G = _) I3 ⟨1, rfl, -1, rfl, rfl, rfl⟩) fun vs s4 ⟨_, _, I4, ps, rfl, rfl⟩ => ?_
  have I5 := I4.kept (h' := s4.heap.push { cls := .type "slice", data := .fields #[vl, vu, vs] }) (t' := s4.toks) fun b ob q => Heap.get?_push_of_some _ q
  rcases hx with ⟨hx, q⟩ | ⟨hx, q⟩
  · obtain ⟨its, r, ht, hz⟩ := I5.tuple hx
    have hlen := r.length
    refine tail_any (ops := [.ref a, .ref s4.heap.objs.size]) ht.typeIs (PyProof.Rows.slot_tuple_getitem.lookup) ?_ (by with_unfolding_all rfl)
    refine back_tuple ht (Heap.IsSliceOf.new _ vl vu vs) pl pu ps ?_ (by rw [List.size_toArray]; omega)
    refine ⟨.ref _, _, I5.laid (t' := s4.toks) (o := .tup xs.reverse) (fun b ob q => Heap.get?_push_of_some _ q) (Nat.le_refl _) ?_, rfl, q _ (I5.hok.fresh (Nat.le_refl _))⟩
    exact ⟨by rw [List.length_reverse]; exact hz, _, r.reverse, IsTup.new _ _⟩
  · obtain ⟨its, r, ht, hz⟩ := I5.list hx
    have hlen := r.length
    refine tail_any (ops := [.ref a, .ref s4.heap.objs.size]) ht.isList.typeIs (PySem.slot_list_getitem.lookup) ?_ (by with_unfolding_all rfl)
    refine wpAny_getItem_list_slice ht.isList (Heap.IsSliceOf.new _ vl vu vs) pl pu ps (by decide) ?_ (by rw [List.size_toArray]; omega)
    rw [PySem.W.krv_pick]
    refine ⟨.ref _, _, I5.laid (t' := s4.toks) (o := .lst xs.reverse) (fun b ob q => Heap.get?_push_of_some _ q) (Nat.le_refl _) ?_, rfl, q _ (I5.hok.fresh (Nat.le_refl _))⟩
    exact ⟨by rw [List.length_reverse]; exact hz, _, 0, r.reverse, Heap.get?_push_size _ rfl⟩
variable {W : WX} {Z : Ext} {CL : Calls} {ow0 : List Addr} {Hb : Hp}
def wRev (w : WE) : WE := fun ρ P Ex => w ρ (fun y => match y.rd with
  | some (.tuple xs) => P (.d (.tuple xs.reverse))
  | some (.list xs) => P (.own xs.reverse)
  | _ => False) Ex
theorem sim_rev {e : Expr} {k : Nat} {p1 p2 p3 pos : Pos} {we : WE} (h : SimE X W Z CL ow0 Hb e we) : SimE X W Z CL ow0 Hb (.Subscript e (.Slice none none (some (.UnaryOp .USub (.Constant (.int 1) k p1) p2)) p3) pos) (wRev we) := by
  intro S ρ σ H ow P Ex Q r w g b
  refine PEat.of (pe_revT PEat.pe) (h S ρ σ H ow _ Ex _ r w (fun y v H1 q e1 z1 h1 => ?_) b)
  have g1 := g.step e1 r.gr.fpo
  have r1 := r.gr.step e1 z1
  split at q
  · rename_i xs e
    obtain ⟨p, vs, rfl, hp, ha⟩ := h1.tuple e
    exact ⟨p, vs, rfl, .inl ⟨hid_le.sqt hp, fun q' hq => g1.tup q r1 hq ha.reverse⟩⟩
  · rename_i xs e
    obtain ⟨p, vs, rfl, hp, ha⟩ := h1.list e
    exact ⟨p, vs, rfl, .inr ⟨.inl (.of hp), fun q' hq => g1.lst q r1 hq ha.reverse⟩⟩
  · exact q.elim
end
end Pd

/-! Pd34: constants of a module; facts of classes. -/
namespace Pd
open PySem PySem.Spec PyProof.Rows L2
mutual
/-- what a value of the written part is as data -/
def valD (K : PySem.W.Frag) : Nat → Value → Option D
  | _, .none => some .none
  | _, .bool b => some (.bool b)
  | _, .int i _ => some (.int i)
  | _, .str x _ => some (.str x)
  | n + 1, .ref a => match K.lookup a with
    | some o => match o.cls, o.data with
      | .type "tuple", .seq its _ => if its.size ≤ 1000 then (valsD K n its.toList).map PyData.tuple else none
      | _, _ => none
    | none => none
  | _, _ => none
def valsD (K : PySem.W.Frag) : Nat → List Value → Option (List D)
  | _, [] => some []
  | n, u :: us => match valD K n u, valsD K n us with
    | some d, some ds => some (d :: ds)
    | _, _ => none
end
theorem valD_none (K : PySem.W.Frag) (n : Nat) : valD K n .none = some .none := by cases n <;> (unfold valD; rfl)
theorem valD_bool (K : PySem.W.Frag) (n : Nat) (b : Bool) : valD K n (.bool b) = some (.bool b) := by cases n <;> (unfold valD; rfl)
theorem valD_int (K : PySem.W.Frag) (n : Nat) (i : Int) (t : Tok) : valD K n (.int i t) = some (.int i) := by cases n <;> (unfold valD; rfl)
theorem valD_str (K : PySem.W.Frag) (n : Nat) (x : Str) (t : Tok) : valD K n (.str x t) = some (.str x) := by cases n <;> (unfold valD; rfl)
theorem valD_tup {K : PySem.W.Frag} {n : Nat} {a : Addr} {od : Option Addr} {its : Array Value} {c : Nat} {sl : Array (Option Value)} {ds : List D} (h : K.lookup a = some ⟨.type "tuple", od, .seq its c, sl⟩) (hz : Nat.ble its.size 1000 = true) (hv : valsD K n its.toList = some ds) : valD K (n + 1) (.ref a) = some (.tuple ds) := by
  unfold valD
  rw [h]
  simp only
  rw [if_pos (Nat.le_of_ble_eq_true hz), hv]
  rfl
theorem valsD_nil (K : PySem.W.Frag) (n : Nat) : valsD K n [] = some [] := by unfold valsD; rfl
theorem valsD_cons {K : PySem.W.Frag} {n : Nat} {u : Value} {us : List Value} {d : D} {ds : List D} (h : valD K n u = some d) (hs : valsD K n us = some ds) : valsD K n (u :: us) = some (d :: ds) := by
  unfold valsD
  rw [h, hs]
mutual
theorem valD_ok {K : PySem.W.Frag} : ∀ (n : Nat) (u : Value) (d : D), valD K n u = some d → ∃ v, RelV v u ∧ ∀ H, Dt K H v d
  | n, .none, d, e => by
    cases n <;> (unfold valD at e; cases e; exact ⟨.non, rfl, fun _ => .non⟩)
  | n, .bool b, d, e => by
    cases n <;> (unfold valD at e; cases e; exact ⟨.bl b, rfl, fun _ => .bl b⟩)
  | n, .int i t, d, e => by
    cases n <;> (unfold valD at e; cases e; exact ⟨.int i, ⟨t, rfl⟩, fun _ => .int i⟩)
  | n, .str x t, d, e => by
    cases n <;> (unfold valD at e; cases e; exact ⟨.str x, ⟨t, rfl⟩, fun _ => .str x⟩)
  | 0, .ref a, d, e => by unfold valD at e; cases e
  | n + 1, .ref a, d, e => by
    unfold valD at e
    split at e
    · rename_i o ho
      split at e
      · rename_i its c hc hd
        split at e
        · rename_i hz
          obtain ⟨ds, e1, rfl⟩ := Option.map_eq_some_iff.mp e
          obtain ⟨vs, r, hv⟩ := valsD_ok n its.toList ds e1
          exact ⟨.ref a, rfl, fun H => .tup (.inr ⟨o, its, c, ho, hc, hd, by rw [sizeLine_eq]; omega, r⟩) (hv H)⟩
        · cases e
      · cases e
    · cases e
  | n, .ellipsis, d, e => by cases n <;> (unfold valD at e; cases e)
  | n, .notImplemented, d, e => by cases n <;> (unfold valD at e; cases e)
  | n, .float _ _, d, e => by cases n <;> (unfold valD at e; cases e)
  | n, .bytes _ _, d, e => by cases n <;> (unfold valD at e; cases e)
  | n, .type _, d, e => by cases n <;> (unfold valD at e; cases e)
  | n, .builtin _, d, e => by cases n <;> (unfold valD at e; cases e)
theorem valsD_ok {K : PySem.W.Frag} : ∀ (n : Nat) (us : List Value) (ds : List D), valsD K n us = some ds → ∃ vs, Vals vs us ∧ ∀ H, DtAll K H vs ds
  | n, [], ds, e => by unfold valsD at e; cases e; exact ⟨[], .nil, fun _ => .nil⟩
  | n, u :: us, ds, e => by
    unfold valsD at e
    split at e
    · rename_i d ds' e1 e2
      cases e
      obtain ⟨v, r1, h1⟩ := valD_ok n u d e1
      obtain ⟨vs, r2, h2⟩ := valsD_ok n us ds' e2
      exact ⟨v :: vs, .cons r1 r2, fun H => .cons (h1 H) (h2 H)⟩
    · cases e
end
/-- the module's constant x is the data d -/
structure GlC (K : PySem.W.Frag) (mg : Str → Option Value) (x : Str) (d : D) : Prop where
  ex : ∃ v u, mg x = some u ∧ RelV v u ∧ ∀ H, Dt K H v d
theorem GlC.of {K : PySem.W.Frag} {mg : Str → Option Value} {x : Str} {u : Value} {d : D} (hm : mg x = some u) (n : Nat) (e : valD K n u = some d) : GlC K mg x d := by
  obtain ⟨v, r, h⟩ := valD_ok n u d e
  exact ⟨v, u, hm, r, h⟩
section
variable {X : Cx} {W : WX} {Z : Ext} {CL : Calls} {ow0 : List Addr} {Hb : Hp}
theorem sim_globC {x : Str} {pos : Pos} {d : D} (hg : Gl X x) (h : GlC X.K X.mg x d) (hdb : (x == ("__debug__" : Str)) = false := by decide) : SimE X W Z CL ow0 Hb (.Name x pos) (wC d) := by
  obtain ⟨v, u, hm, r, hd⟩ := h.ex
  exact sim_glob hg hm r hd hdb
end
/-- the j-th statement of a class's body -/
def inner (s : Stmt) (j : Nat) : Stmt := match s with
  | .ClassDef _ _ _ body _ _ _ _ _ _ _ => body.getD j (.Pass ⟨0, 0, 0, 0⟩)
  | _ => .Pass ⟨0, 0, 0, 0⟩
theorem exm_two {K : PySem.W.Frag} {C CS : Addr} {v : Bool} (b : PySem.W.subIn K (.ref CS) (.type "BaseException") = some true) (i : PySem.W.isClsIn K CS = true) (t : PySem.W.typeIn K (.ref CS) = some (.type "type")) (r : PySem.W.subIn K (.ref C) (.ref CS) = some v) : PySem.W.exmOne K (.ref C) (.ref CS) = some v := by
  have isC : (PySem.W.clsIn K CS).isSome = true := i
  have ok1 : (PySem.W.subIn K (.ref CS) (.type "BaseException") == some true) = true := by rw [b]; rfl
  have ok2 : ((PySem.W.clsIn K CS).isSome && PySem.W.typeIn K (.ref CS) == some (.type "type")) = true := by rw [isC, t]; rfl
  exact Eq.trans (if_pos ok1) (Eq.trans (if_pos ok2) r)
theorem apart_nil {K : PySem.W.Frag} {mg : Str → Option Value} {xs : List Str} : Apart K mg xs [] [] := True.intro
theorem apart_cons {K : PySem.W.Frag} {mg : Str → Option Value} {xs : List Str} {c wd : Str} {fs : List Str} {r : Clz} {CS : Addr} {r' : List (Addr × Str × List Str)} (hl : fs.length ≤ 4) (hc : mg c = some (.ref CS))
    (h : ∀ e ∈ xs, ∀ C, mg e = some (.ref C) → PySem.W.exmOne K (.ref C) (.ref CS) = some (decide (e = c))) (more : Apart K mg xs r r') : Apart K mg xs ((c, wd, fs) :: r) ((CS, wd, fs) :: r') := ⟨rfl, rfl, hl, hc, h, more⟩
end Pd

/-! Pd35: <, <=, >, >= of data that are alike; min, max of a row. -/
namespace Pd
open PySem PySem.Spec PyProof.Rows L2
section
variable {X : Cx} {Z : Ext} {CL : Calls}
def opCmpD (f : D → D → Bool) : Op2 := fun a b P => match a.rd, b.rd with
  | some x, some y => (PySem.W.alike x y = true ∧ x ≠ .none ∧ min x.depth y.depth ≤ 100) ∧ P (.d (.bool (f x y)))
  | _, _ => False
abbrev opLtD : Op2 := opCmpD fun x y => PySem.W.dataLt x y
abbrev opGtD : Op2 := opCmpD fun x y => PySem.W.dataLt y x
abbrev opLeD : Op2 := opCmpD fun x y => !PySem.W.dataLt y x
abbrev opGeD : Op2 := opCmpD fun x y => !PySem.W.dataLt x y
theorem or_cmpD {o : CmpOp} {f : D → D → Bool} (hu : X.A.units + 200 < cLine)
    (hc : ∀ {A : Around} {E : Value → Shared → Prop} {s : Shared} {a b : Value} {da db : PyData} {as bs : List Addr} {Q : Value → Shared → Prop}, Reads s.heap a da as → Reads s.heap b db bs → PySem.W.alike da db = true → da ≠ .none → A.units + min da.depth db.depth < cLine → Q (.bool (f da db)) s → wpAny (model X.prog X.w) A (compareOp o a b) Q E s) :
    OpR X (compareOp o) (rD CL Z X.K (opCmpD f)) := by
  intro pins s σ H x y v u Q I rx ry h
  obtain ⟨ow, H0, a, b, P, gr, ha, hb, w, gd⟩ := h
  unfold opCmpD at w
  split at w
  · rename_i i j e1 e2
    obtain ⟨as, r1⟩ := ha.reads I e1 rx
    obtain ⟨bs, r2⟩ := hb.reads I e2 ry
    exact hc r1 r2 w.1.1 w.1.2.1 (by have := w.1.2.2; omega) ⟨.bl _, H, I, rfl, gd.sc w.2 gr.ext fun _ => .bl _⟩
  · exact w.elim
theorem or_ltD (hu : X.A.units + 200 < cLine) : OpR X (compareOp .Lt) (rD CL Z X.K opLtD) := or_cmpD hu fun r1 r2 a n u q => PySem.W.lt_data r1 r2 a n u q
theorem or_gtD (hu : X.A.units + 200 < cLine) : OpR X (compareOp .Gt) (rD CL Z X.K opGtD) := or_cmpD hu fun r1 r2 a n u q => PySem.W.gt_data r1 r2 a n u q
theorem or_leD (hu : X.A.units + 200 < cLine) : OpR X (compareOp .LtE) (rD CL Z X.K opLeD) := or_cmpD hu fun r1 r2 a n u q => PySem.W.le_data r1 r2 a n u q
theorem or_geD (hu : X.A.units + 200 < cLine) : OpR X (compareOp .GtE) (rD CL Z X.K opGeD) := or_cmpD hu fun r1 r2 a n u q => PySem.W.ge_data r1 r2 a n u q
theorem fold_pick {f : D → D → Bool} : ∀ (xs : List D) (x : D), xs.foldl (fun a y => if f a y = true then y else a) x ∈ x :: xs
  | [], x => List.mem_cons_self
  | y :: ys, x => by
    rw [List.foldl_cons]
    have h := fold_pick (f := f) ys (if f x y = true then y else x)
    rcases List.mem_cons.mp h with e | h
    · rw [e]
      split
      · exact List.mem_cons_of_mem _ List.mem_cons_self
      · exact List.mem_cons_self
    · exact List.mem_cons_of_mem _ (List.mem_cons_of_mem _ h)
theorem minD_mem (x : D) (xs : List D) : PySem.W.minD x xs ∈ x :: xs := fold_pick (f := fun a y => PySem.W.dataLt y a) xs x
theorem maxD_mem (x : D) (xs : List D) : PySem.W.maxD x xs ∈ x :: xs := fold_pick (f := fun a y => PySem.W.dataLt a y) xs x
/-- min(row), max(row) -/
def bBest (f : D → List D → D) : OpN := op1 fun d P => match d with
  | .list (x :: xs) => (PySem.W.AlikeAll (x :: xs) ∧ PyData.depthAll (x :: xs) ≤ 100) ∧ P (.d (f x xs))
  | .tuple (x :: xs) => (PySem.W.AlikeAll (x :: xs) ∧ PyData.depthAll (x :: xs) ≤ 100) ∧ P (.d (f x xs))
  | _ => False
abbrev bMinR : OpN := bBest PySem.W.minD
abbrev bMaxR : OpN := bBest PySem.W.maxD

theorem reads_all {pins : List (Addr × Obj)} {s : Shared} {σ : L2.St} {H : Hp} (I : Inv X pins σ H s) {ow : List Addr} : ∀ {ws : List V} {us : List Value} {xs : List D}, Vals ws us → DtAll X.K (hid ow H) ws xs → ∃ as, ReadsAll s.heap us xs as
  | _, _, _, .nil, .nil => ⟨_, .nil⟩
  | _, _, _, .cons r t, .cons h a => by
    obtain ⟨as, q1⟩ := Dp.reads I _ _ _ (Dt.mono hid_le h).dp r
    obtain ⟨bs, q2⟩ := reads_all I t a
    exact ⟨_, .cons q1 q2⟩
/-- the item told is the datum told -/
theorem item_told {pins : List (Addr × Obj)} {s : Shared} {σ : L2.St} {H : Hp} (I : Inv X pins σ H s) {ow : List Addr} {ws : List V} {us : List Value} {xs : List D} {x m : D} {i : Nat} {v : Value} {h' : Heap} {bs : List Addr} (r : Vals ws us) (ha : DtAll X.K (hid ow H) ws (x :: xs)) (al : PySem.W.AlikeAll (x :: xs)) (hm : m ∈ x :: xs)
    (hi : us[i]? = some v) (rd : Reads h' v m bs) (hk : ∀ b o, s.heap.get? b = some o → h'.get? b = some o) : ∃ w, RelV w v ∧ Dt X.K (hid ow H) w m := by
  obtain ⟨w, hw, rw'⟩ : ∃ w, ws[i]? = some w ∧ RelV w v := by
    cases e : ws[i]? with
    | none => rw [r.none_of e] at hi; cases hi
    | some w =>
      obtain ⟨u, h1, h2⟩ := r.get e
      rw [hi] at h1
      cases h1
      exact ⟨w, rfl, h2⟩
  obtain ⟨d, hd, hdt⟩ := ha.get' hw
  obtain ⟨as, ra⟩ := Dp.reads I _ _ _ (Dt.mono hid_le hdt).dp rw'
  have e : d = m := PySem.W.alike_unique _ _ _ _ _ (al.1 d (List.mem_of_getElem? hd) m hm) (Reads.keeps hk ra) rd
  exact ⟨w, rw', e ▸ hdt⟩
theorem cd_best {id : String} {f : D → List D → D} (hf : ∀ x xs, f x xs ∈ x :: xs) (hu : X.A.units + 200 < cLine)
    (hL : ∀ {pins : List (Addr × Obj)} {s : Shared} {σ : L2.St} {H : Hp} {l : Addr} {vs : Array Value} {x : PyData} {xs : List PyData} {as : List Addr} {Q : Value → Shared → Prop}, Inv X pins σ H s → s.heap.IsList l vs → ReadsAll s.heap vs.toList (x :: xs) as → PySem.W.AlikeAll (x :: xs) → X.A.units + 1 + PyData.depthAll (x :: xs) < cLine →
      (∀ (i : Nat) v h' tk bs, vs[i]? = some v → Reads h' v (f x xs) bs → (∀ b o, s.heap.get? b = some o → h'.get? b = some o) → Q v { s with heap := h', toks := tk }) → wpAny (model X.prog X.w) X.A (call (.builtin id) [.ref l]) Q X.xe s)
    (hT : ∀ {pins : List (Addr × Obj)} {s : Shared} {σ : L2.St} {H : Hp} {l : Addr} {vs : Array Value} {x : PyData} {xs : List PyData} {as : List Addr} {Q : Value → Shared → Prop}, Inv X pins σ H s → s.heap.IsTuple l vs → ReadsAll s.heap vs.toList (x :: xs) as → PySem.W.AlikeAll (x :: xs) → X.A.units + 1 + PyData.depthAll (x :: xs) < cLine →
      (∀ (i : Nat) v h' tk bs, vs[i]? = some v → Reads h' v (f x xs) bs → (∀ b o, s.heap.get? b = some o → h'.get? b = some o) → Q v { s with heap := h', toks := tk }) → wpAny (model X.prog X.w) X.A (call (.builtin id) [.ref l]) Q X.xe s) :
    CallR X (.builtin id) (rC CL Z X.K (bBest f)) := by
  intro pins s σ H vs us Q I rv hyp
  obtain ⟨ow, H0, ys, P, gr, hs, w, g⟩ := hyp
  obtain ⟨v, y, d, rfl, hy, ed, w⟩ := one hs w
  have last : ∀ {ws : List V} {its : List Value} {x : D} {xs : List D}, Vals ws its → DtAll X.K (hid ow H) ws (x :: xs) → PySem.W.AlikeAll (x :: xs) → P (.d (f x xs)) → ∀ (i : Nat) v h' tk bs, its.toArray[i]? = some v → Reads h' v (f x xs) bs → (∀ b o, s.heap.get? b = some o → h'.get? b = some o) → EP X pins σ Q v { s with heap := h', toks := tk } :=
    fun r ha al p i v h' tk bs hi rd hk => by
      obtain ⟨w, rw', hd⟩ := item_told I r ha al (hf _ _) (by simpa using hi) rd hk
      exact ⟨w, H, I.kept hk, rw', g _ _ _ p (.refl _ _) gr.ext hd⟩
  split at w
  · rename_i x xs
    obtain ⟨⟨w1, w2⟩, w⟩ := w
    obtain ⟨p, ws, rfl, hp, ha⟩ := hy.list ed
    rw [Vals.ref1 rv]
    obtain ⟨its, r1, pl, hz⟩ := I.list (.inl (.of hp))
    obtain ⟨as, ra⟩ := reads_all I r1 ha
    exact hL I pl.isList ra w1 (by omega) (last r1 ha w1 w)
  · rename_i x xs
    obtain ⟨⟨w1, w2⟩, w⟩ := w
    obtain ⟨p, ws, rfl, hp, ha⟩ := hy.tuple ed
    rw [Vals.ref1 rv]
    obtain ⟨its, r1, pl, hz⟩ := I.tuple (hid_le.sqt hp)
    obtain ⟨as, ra⟩ := reads_all I r1 ha
    exact hT I pl ra w1 (by omega) (last r1 ha w1 w)
  · exact w.elim
theorem cd_minR (hc : X.calm = true) (hu : X.A.units + 200 < cLine) : CallR X (.builtin "min") (rC CL Z X.K bMinR) := cd_best minD_mem hu (fun I a b c d e => PySem.W.min_list_data (I.ok.hd hc) a b c d e) fun I a b c d e => PySem.W.min_tuple_data (I.ok.hd hc) a b c d e
theorem cd_maxR (hc : X.calm = true) (hu : X.A.units + 200 < cLine) : CallR X (.builtin "max") (rC CL Z X.K bMaxR) := cd_best maxD_mem hu (fun I a b c d e => PySem.W.max_list_data (I.ok.hd hc) a b c d e) fun I a b c d e => PySem.W.max_tuple_data (I.ok.hd hc) a b c d e
end
end Pd

/-! Pd36: a, b, c = x, y, z with values of any kind (new lists among them). -/
namespace Pd
open PySem PySem.Spec PyProof.Rows L2
section
variable {X : Cx} {W : WX} {Z : Ext} {CL : Calls} {ow0 : List Addr} {Hb : Hp}
/-- values as slots hold them, with what they own -/
inductive SVFs (CL : Calls) (Z : Ext) (K : PySem.W.Frag) (ow : List Addr) (Hb H : Hp) : List V → List Val → List Addr → Prop
  | nil : SVFs CL Z K ow Hb H [] [] []
  | cons {v : V} {vs : List V} {y : Val} {ys : List Val} {as bs : List Addr} : SVF CL Z K ow Hb H v y as → SVFs CL Z K ow Hb H vs ys bs → (∀ a ∈ as, a ∉ bs) → SVFs CL Z K ow Hb H (v :: vs) (y :: ys) (as ++ bs)
theorem SVFs.len {K : PySem.W.Frag} {ow : List Addr} {H : Hp} : ∀ {vs : List V} {ys : List Val} {bs : List Addr}, SVFs CL Z K ow Hb H vs ys bs → vs.length = ys.length
  | _, _, _, .nil => rfl
  | _, _, _, .cons _ t _ => by simp [t.len]
def setAll : Ev → List Nat → List Val → Ev
  | ρ, i :: is, y :: ys => setAll (ρ.set i (some y)) is ys
  | ρ, _, _ => ρ
def setAllV : L2.St → List Nat → List V → L2.St
  | σ, i :: is, v :: vs => setAllV (σ.set i (some v)) is vs
  | σ, _, _ => σ
theorem Rel.putAll {S : Hp} {H : Hp} {ow : List Addr} : ∀ {is : List Nat} {vs : List V} {ys : List Val} {bs : List Addr} {ρ : Ev} {σ : L2.St} {F : Nat → List Addr}, Rel CL Z X.K ow0 Hb S ρ σ H ow → Slots CL Z X.K ow Hb H ρ σ F → SVFs CL Z X.K ow Hb H vs ys bs → (∀ j, ∀ a ∈ bs, a ∉ F j) → Rel CL Z X.K ow0 Hb S (setAll ρ is ys) (setAllV σ is vs) H ow
  | [], _, _, _, ρ, σ, F, r, f, h, _ => by cases h <;> exact r
  | i :: is, _, _, _, ρ, σ, F, r, f, .nil, _ => r
  | i :: is, _, _, _, ρ, σ, F, r, f, .cons (v := v) (vs := vs) (y := y) (ys := ys) (as := as) (bs := bs) h t n, ap => by
    have ap1 : ∀ j, j ≠ i → ∀ a ∈ as, a ∉ F j := fun j _ a m => ap j a (List.mem_append_left _ m)
    obtain ⟨G, g, sub⟩ := f.set (i := i) r.len h ap1
    refine Rel.putAll (is := is) (F := G) (r.slotF f h ap1) g t fun j a m q => ?_
    rcases sub j a q with z | z
    · exact n a z m
    · exact ap j a (List.mem_append_right _ m) z
def slvOk (y : Val) : Bool := (slv y).isSome
def wUcons (w : WE) (ws : WA) : WA := fun ρ P Ex => w ρ (fun y => slvOk y = true ∧ ws ρ (fun ys => P (y :: ys)) Ex) Ex
def SimU (X : Cx) (W : WX) (Z : Ext) (CL : Calls) (ow0 : List Addr) (Hb : Hp) (es : List Expr) (w : WA) : Prop := ∀ (S : Hp) (ρ : Ev) (σ : L2.St) (H : Hp) (ow : List Addr) (P : List Val → Prop) (Ex : Xn → Prop) (Q : List V → Hp → Prop) (F : Nat → List Addr),
  Rel CL Z X.K ow0 Hb S ρ σ H ow → Slots CL Z X.K ow Hb H ρ σ F → w ρ P Ex → (∀ ys vs H' ow' bs, P ys → SameBut (fp Z) H H' → Rel CL Z X.K ow0 Hb S ρ σ H' ow' → Slots CL Z X.K ow' Hb H' ρ σ F → (∀ a ∈ ow, a ∈ ow') → SVFs CL Z X.K ow' Hb H' vs ys bs → (∀ b ∈ bs, b ∉ ow) → Q vs H') →
  Bd Z X.K ow X.mg W σ H Ex → PAat X es σ H Q
theorem sim_unil : SimU X W Z CL ow0 Hb [] wNil := fun S ρ σ H ow P Ex Q F r f w g b => PAat.of pa_nil (g [] [] H ow [] w (.refl _ _) r f (fun _ m => m) .nil fun _ m => nomatch m)
theorem Bd.deep {W : WX} {σ : L2.St} {H : Hp} {ow ow' : List Addr} {Ex : Xn → Prop} (b : Bd Z X.K ow X.mg W σ H Ex) (h : ∀ a ∈ ow, a ∈ ow') : Bd Z X.K ow' X.mg W σ H Ex := fun x cls d H' p er e z => by
  refine b x cls d H' p ⟨er.1, fun n => ?_⟩ e z
  obtain ⟨dx, fs, h1, h2, h3, h4⟩ := er.2 n
  refine ⟨dx, fs, h1, h2, h3, DtAll.mono (fun a o q => ?_) h4⟩
  obtain ⟨m, q1, t⟩ := hid_some q
  exact hid_of (fun q2 => m (h a q2)) q1 t
theorem SVFs.mono {H H' : Hp} {ow ow' : List Addr} (e : SameBut (fp Z) H H') (g : Le (hid ow H) (hid ow' H')) (sub : ∀ a ∈ ow, a ∈ ow') : ∀ {vs : List V} {ys : List Val} {bs : List Addr}, SVFs CL Z X.K ow Hb H vs ys bs → SVFs CL Z X.K ow' Hb H' vs ys bs
  | _, _, _, .nil => .nil
  | _, _, _, .cons h t n => .cons (h.mono (e.agree fun a m => (h.in_ a m).2.2) g fun a m => sub a (h.in_ a m).2.1) (t.mono e g sub) n
theorem SVFs.in_ {H : Hp} {ow : List Addr} : ∀ {vs : List V} {ys : List Val} {bs : List Addr}, SVFs CL Z X.K ow Hb H vs ys bs → ∀ b ∈ bs, b ∈ ow
  | _, _, _, .nil, b, m => nomatch m
  | _, _, _, .cons h t n, b, m => (List.mem_append.mp m).elim (fun q => (h.in_ b q).2.1) (t.in_ b)
theorem slvOk_eq {y : Val} (h : slvOk y = true) : slv y = some y := by
  unfold slvOk at h
  obtain ⟨z, e⟩ := Option.isSome_iff_exists.mp h
  rw [e, slv_eq e]
theorem sim_ucons {e : Expr} {es : List Expr} {we : WE} {ws : WA} (he : SimE X W Z CL ow0 Hb e we) (hs : SimU X W Z CL ow0 Hb es ws) (hst : starEach (e :: es) X.env = (false, eval e X.env) :: starEach es X.env := by rfl) : SimU X W Z CL ow0 Hb (e :: es) (wUcons we ws) := by
  intro S ρ σ H ow P Ex Q F r f w g b
  refine PAat.of (pa_cons PEat.pe PAat.pa hst) (he S ρ σ H ow _ Ex _ r w (fun y v H1 p1 e1 z1 h1 => ?_) b)
  obtain ⟨ok, p1⟩ := p1
  obtain ⟨ow1, as, r1, f1, sub1, sv1, n1⟩ := r.take f e1 z1 h1 (slvOk_eq ok)
  refine hs (hid ow1 H1) ρ σ H1 ow1 _ Ex _ F (r1.remark fun _ _ q => q) f1 p1 (fun ys vs H2 ow2 bs p2 e2 r2 f2 sub2 sv2 n2 => ?_) ((b.step e1).deep sub1)
  refine g (y :: ys) (v :: vs) H2 ow2 (as ++ bs) p2 (e1.trans e2) (r2.remark (r1.mark.trans r2.mark)) f2 (fun a m => sub2 a (sub1 a m)) (.cons (sv1.mono (e2.agree fun a m => (sv1.in_ a m).2.2) r2.mark fun a m => sub2 a (sv1.in_ a m).2.1) sv2 fun a m q => n2 a q (sv1.in_ a m).2.1) fun a m => ?_
  rcases List.mem_append.mp m with m | m
  · exact n1 a m
  · exact fun q => n2 a m (sub1 a q)
def wUnp (is : List Nat) (wa : WA) : WS := fun E ρ => wa ρ (fun ys => ys.length = is.length ∧ E.nx (setAll ρ is ys)) (fun x => E.ex x ρ)
/-- names as targets -/
inductive Nms (X : Cx) : List Expr → List Nat → Prop
  | nil : Nms X [] []
  | cons {x : Str} {p : Pos} {i : Nat} {es : List Expr} {is : List Nat} (hi : X.N[i]? = some x) (hx : Loc X.env.scope x) (hf : X.fn x = true ∨ X.env.scope.names.lookup x = some .local) (ha : (assignEach (.Name x p :: es) X.env).map (·.2) = assign (.Name x p) X.env :: (assignEach es X.env).map (·.2)) (r : Nms X es is) : Nms X (.Name x p :: es) (i :: is)
theorem Nms.pgs {es : List Expr} {is : List Nat} (hN : X.N.Nodup) (h : Nms X es is) : PGs X es (fun vs σ H Q => vs.length = is.length ∧ Q (setAllV σ is vs) H) := by
  induction h with
  | nil =>
    refine ⟨fun pins s σ H vs us Q I r h => ?_⟩
    obtain ⟨h1, h2⟩ := h
    cases vs with
    | nil => exact pgs_nil.run pins s σ H [] us Q I r ⟨rfl, h2⟩
    | cons _ _ => simp at h1
  | @cons x p i es is hi hx hf ha _ ih =>
    refine ⟨fun pins s σ H vs us Q I r h => ?_⟩
    obtain ⟨h1, h2⟩ := h
    cases vs with
    | nil => simp at h1
    | cons v vs => exact (pgs_cons (pg_name hN hi hx hf) ih ha).run pins s σ H (v :: vs) us Q I r ⟨v, vs, rfl, by simpa using h1, h2⟩
theorem sim_unpT {ts es : List Expr} {is : List Nat} {wa : WA} {k k2 : Nat} {tp ep pos : Pos} (hc : X.calm = true) (hN : X.N.Nodup) (h : SimU X W Z CL ow0 Hb es wa) (ht : Nms X ts is) (nd : is.Nodup := by decide) (hn : (assignEach ts X.env).length = is.length := by rfl) (hst : (assignEach ts X.env).findIdx? (·.1) = none := by rfl)
    (hs : swapsWithSole [.Tuple ts k tp] (.Tuple es k2 ep) pos.line X.env = pure false := by rfl) (hw : swappedStores [.Tuple ts k tp] (.Tuple es k2 ep) X.env = pure none := by rfl) (h1 : (assignEach [.Tuple ts k tp] X.env).map (·.2) = [assign (.Tuple ts k tp) X.env] := by rfl) (few : is.length ≤ 10 := by decide) :
    SimS X W Z CL ow0 Hb (.Assign [.Tuple ts k tp] (.Tuple es k2 ep) pos) (wUnp is wa) := by
  intro S ρ σ H ow E D r w o
  refine PSat.of (ps_asg (pe_tup PAat.pa) (pg_tup hc (ht.pgs hN) hn hst) hs hw h1) ?_
  obtain ⟨F, f⟩ := r.own
  refine h S ρ σ H ow _ _ _ F r f w (fun ys vs H1 ow1 bs p1 e1 r1 f1 sub sv n => ?_) (o.bd r)
  have hl : vs.length = is.length := sv.len.trans p1.1
  refine ⟨by rw [hl, sizeLine_eq]; omega, fun p hp => ⟨p, vs, rfl, .inl (.of upd_same), hl, hl, ?_⟩⟩
  have e2 : SameBut (fp Z) H1 (upd H1 p (.tup vs)) := .new hp
  have r2 := (r1.putAll (is := is) f1 sv fun j a m q => n a m (f.in_ j a q).2.1).step e2 (r1.gr.ext.le (Le.new hp))
  exact o.nx _ _ _ _ p1.2 r2
theorem sim_unp2 (i j : Nat) {x y : Str} {a b : Expr} {wa : WA} {px py pt pos : Pos} {kt k2 pt2} (hc : X.calm = true) (h : SimU X W Z CL ow0 Hb [a, b] wa) (hN : X.N.Nodup) (hij : i ≠ j := by decide)
    (hi : X.N[i]? = some x := by rfl) (hj : X.N[j]? = some y := by rfl) (hx : X.env.scope.names.lookup x = some .local := by rfl) (hy : X.env.scope.names.lookup y = some .local := by rfl)
    (hw : swappedStores [.Tuple [.Name x px, .Name y py] kt pt] (.Tuple [a, b] k2 pt2) X.env = pure (some [x, y]) := by rfl)
    (hs : swapsWithSole [.Tuple [.Name x px, .Name y py] kt pt] (.Tuple [a, b] k2 pt2) pos.line X.env = pure false := by rfl) :
    SimS X W Z CL ow0 Hb (.Assign [.Tuple [.Name x px, .Name y py] kt pt] (.Tuple [a, b] k2 pt2) pos) (wUnp [i, j] wa) := by
  intro S ρ σ H ow E D r w o
  obtain ⟨F, f⟩ := r.own
  refine PSat.of (ps_par hc hN hi hj hij hx hy PAat.pa hw hs) (h S ρ σ H ow _ _ _ F r f w (fun ys vs H1 ow1 bs p1 e1 r1 f1 sub sv n => ?_) (o.bd r))
  have hl : vs.length = 2 := sv.len.trans p1.1
  have r2 := r1.putAll (is := [i, j]) f1 sv fun j a m q => n a m (f.in_ j a q).2.1
  match vs, hl with
  | [v1, v2], _ => exact ⟨v1, v2, rfl, o.nx _ _ _ _ p1.2 r2⟩
theorem sim_unp3 (i j l : Nat) {x y u : Str} {a b c : Expr} {wa : WA} {px py pz pt pos : Pos} {kt k2 pt2} (hc : X.calm = true) (h : SimU X W Z CL ow0 Hb [a, b, c] wa) (hN : X.N.Nodup) (hij : i ≠ j := by decide) (hil : i ≠ l := by decide) (hjl : j ≠ l := by decide)
    (hi : X.N[i]? = some x := by rfl) (hj : X.N[j]? = some y := by rfl) (hl : X.N[l]? = some u := by rfl) (hx : X.env.scope.names.lookup x = some .local := by rfl) (hy : X.env.scope.names.lookup y = some .local := by rfl) (hz : X.env.scope.names.lookup u = some .local := by rfl)
    (hw : swappedStores [.Tuple [.Name x px, .Name y py, .Name u pz] kt pt] (.Tuple [a, b, c] k2 pt2) X.env = pure (some [x, y, u]) := by rfl)
    (hs : swapsWithSole [.Tuple [.Name x px, .Name y py, .Name u pz] kt pt] (.Tuple [a, b, c] k2 pt2) pos.line X.env = pure false := by rfl) :
    SimS X W Z CL ow0 Hb (.Assign [.Tuple [.Name x px, .Name y py, .Name u pz] kt pt] (.Tuple [a, b, c] k2 pt2) pos) (wUnp [i, j, l] wa) := by
  intro S ρ σ H ow E D r w o
  obtain ⟨F, f⟩ := r.own
  refine PSat.of (ps_par3 hc hN hi hj hl hij hil hjl hx hy hz PAat.pa hw hs) (h S ρ σ H ow _ _ _ F r f w (fun ys vs H1 ow1 bs p1 e1 r1 f1 sub sv n => ?_) (o.bd r))
  have hl : vs.length = 3 := sv.len.trans p1.1
  have r2 := r1.putAll (is := [i, j, l]) f1 sv fun j a m q => n a m (f.in_ j a q).2.1
  match vs, hl with
  | [v1, v2, v3], _ => exact ⟨v1, v2, v3, rfl, o.nx _ _ _ _ p1.2 r2⟩
end
end Pd

/-! Pd37: an own list read as data within one expression (thaw). -/
namespace Pd
open PySem PySem.Spec PyProof.Rows L2
mutual
/-- no list, no dict is in it -/
def noLst : D → Bool
  | .list _ => false
  | .dict _ => false
  | .tuple xs => noLsts xs
  | _ => true
def noLsts : List D → Bool
  | [] => true
  | x :: xs => noLst x && noLsts xs
end
theorem noLsts_all : ∀ xs : List D, noLsts xs = xs.all noLst
  | [] => rfl
  | x :: xs => by unfold noLsts; rw [noLsts_all xs]; rfl
mutual
theorem Dt.rehide {K : PySem.W.Frag} {H : Hp} {ow1 ow2 : List Addr} (h : ∀ a ∈ ow2, a ∈ ow1 ∨ ∃ us, H a = some (.lst us)) : ∀ {v : V} {d : D}, Dt K (hid ow1 H) v d → noLst d = true → Dt K (hid ow2 H) v d
  | _, _, .non, _ => .non
  | _, _, .bl b, _ => .bl b
  | _, _, .int i, _ => .int i
  | _, _, .str x, _ => .str x
  | _, _, .lst _ _, e => by unfold noLst at e; cases e
  | _, _, .tup (a := a) (ds := ds) q t, e => by
    have e' : noLsts ds = true := by unfold noLst at e; exact e
    refine .tup ?_ (DtAll.rehide h t e')
    have up : ∀ {o : HO}, hid ow1 H a = some o → (∀ us, o ≠ .lst us) → hid ow2 H a = some o := fun {o} z n => by
      obtain ⟨m, q1, t1⟩ := hid_some z
      refine hid_of (fun m2 => ?_) q1 t1
      rcases h a m2 with z1 | ⟨us, z1⟩
      · exact m z1
      · rw [q1] at z1; exact n us (Option.some.inj z1)
    rcases q with (q | ⟨o, q⟩) | q
    · exact .inl (.inl (up q fun us z => by cases z))
    · exact .inl (.inr ⟨o, up q fun us z => by cases z⟩)
    · exact .inr q
theorem DtAll.rehide {K : PySem.W.Frag} {H : Hp} {ow1 ow2 : List Addr} (h : ∀ a ∈ ow2, a ∈ ow1 ∨ ∃ us, H a = some (.lst us)) : ∀ {vs : List V} {ds : List D}, DtAll K (hid ow1 H) vs ds → noLsts ds = true → DtAll K (hid ow2 H) vs ds
  | _, _, .nil, _ => .nil
  | _, _, .cons (d := d) (ds := ds) a t, e => by
    have e' : noLst d = true ∧ noLsts ds = true := by unfold noLsts at e; simpa using e
    exact .cons (Dt.rehide h a e'.1) (DtAll.rehide h t e'.2)
end
def noLv : Val → Bool
  | .d x => noLst x
  | .own xs => noLsts xs
  | _ => false
section
variable {X : Cx} {W : WX} {Z : Ext} {CL : Calls} {ow0 : List Addr} {Hb : Hp}
theorem Rel.thaw {S : Hp} {ρ : Ev} {σ : L2.St} {H : Hp} {ow : List Addr} {i : Nat} {xs : List D} (r : Rel CL Z X.K ow0 Hb S ρ σ H ow) (g0 : Gr Z ow0 Hb) (hi : ρ[i]? = some (some (.own xs))) :
    ∃ p us, H p = some (.lst us) ∧ p ∉ fp Z ∧ Rel CL Z X.K ow0 Hb S (ρ.set i (some (.d (.list xs)))) σ H (ow.filter (· ∉ [p])) := by
  obtain ⟨v, as, h1, h2, r'⟩ := r.free g0 hi
  have h4 : Dt X.K (hid (ow.filter (· ∉ as)) H) v (.list xs) := (h2.rv rfl).kp rfl
  obtain ⟨p, vs, e, ea, hb, hp, hf, q1, q2⟩ := h2
  subst ea
  have r2 := r'.slot0 (i := i) (y := .d (.list xs)) ⟨rfl, h4⟩
  rw [List.set_set, set_same h1] at r2
  exact ⟨p, vs, q1, hf, r2⟩
def wThaw (i : Nat) (w : WE) : WE := fun ρ P _ => match ρ[i]? with
  | some (some (.own xs)) => w (ρ.set i (some (.d (.list xs)))) (fun y => noLv y = true ∧ P y) (fun _ => False)
  | _ => False
theorem Rel.thawed {S : Hp} {ρ : Ev} {σ : L2.St} {H : Hp} {ow : List Addr} {i : Nat} {we : WE} {P : Val → Prop} {Ex : Xn → Prop} (r : Rel CL Z X.K ow0 Hb S ρ σ H ow) (g0 : Gr Z ow0 Hb) (w : wThaw i we ρ P Ex) :
    ∃ ρ' ow', Rel CL Z X.K ow0 Hb S ρ' σ H ow' ∧ we ρ' (fun y => noLv y = true ∧ P y) (fun _ => False) ∧ ∀ Q, Gd CL Z X.K ow H P Q → Gd CL Z X.K ow' H (fun y => noLv y = true ∧ P y) Q := by
  unfold wThaw at w
  split at w
  · rename_i xs hi
    obtain ⟨p, us, hp, hf, r'⟩ := r.thaw g0 hi
    refine ⟨_, _, r', w, fun Q g y v H' ⟨n, q⟩ e z hv => g y v H' q e z ?_⟩
    have back : ∀ {zs : List Addr}, ∀ a ∈ zs ++ ow, a ∈ zs ++ ow.filter (· ∉ [p]) ∨ ∃ us, H' a = some (.lst us) := fun {zs} a m => by
      rcases List.mem_append.mp m with m | m
      · exact .inl (List.mem_append_left _ m)
      · by_cases ea : a = p
        · exact .inr ⟨us, by rw [ea]; exact e p _ hf nt_lst hp⟩
        · exact .inl (List.mem_append_right _ (List.mem_filter.mpr ⟨m, by simpa using ea⟩))
    cases y with
    | d x => exact Dt.rehide (back (zs := [])) hv n
    | own zs =>
      obtain ⟨q, ts, rfl, nq, mq, hq, ha⟩ := hv
      refine ⟨q, ts, rfl, nq, fun m => mq (List.mem_filter.mpr ⟨m, by simpa using fun ea : q = p => nq _ nt_lst (ea ▸ hp)⟩), hq, DtAll.rehide (back (zs := [q])) ha n⟩
    | bor _ => cases n
    | bag => cases n
    | fn _ _ => cases n
    | tr _ _ => cases n
  · exact w.elim
theorem sim_thaw (i : Nat) {e : Expr} {we : WE} (g0 : Gr Z ow0 Hb) (h : SimE X W Z CL ow0 Hb e we) : SimE X W Z CL ow0 Hb e (wThaw i we) := by
  intro S ρ σ H ow P Ex Q r w g b
  obtain ⟨ρ', ow', r', w', g'⟩ := r.thawed g0 w
  exact h S ρ' σ H ow' _ _ Q r' w' (g' Q g) fun x cls d H' z => z.elim
/-- name = [.. for .. in a list of ours], on one line -/
theorem sim_setLcTD (i j : Nat) {y : Str} {py : Pos} {tg iter elt : Expr} {ifs : List Expr} {scope : Scope} {own : List (Str × Nat)} {pos spos : Pos} {wi : WI} {b : WB} {is : List Nat} {tt : WT} {we : WE} (hc : X.calm = true) (hN : X.N.Nodup) (g0 : Gr Z ow0 Hb) (hi : SimI X W Z CL ow0 Hb tg iter wi) (ok : BlkOk X.N X.env.scope scope own) (his : ∀ i ∈ is, i ∈ own.map (·.2))
    (hg : InBlk X scope fun Y => SimB Y Z CL ow0 Hb tg b is) (ht : InBlk X scope fun Y => SimTs Y W0 Z CL ow0 Hb ifs tt) (he : InBlk X scope fun Y => SimE Y W0 Z CL ow0 Hb elt we)
    (hy : X.N[i]? = some y := by rfl) (hyl : X.env.scope.names.lookup y = some .local := by rfl) (hsw : swapsWith (.ListComp elt [⟨tg, iter, ifs, 0⟩] scope pos) (some (.Name y py)) spos.line X.env = pure true := by exact sw_true rfl rfl rfl (by decide +kernel))
    (hs : ∀ x, foldedSetIterable iter X.env x = pure x := by intro _; rfl) : SimS X W Z CL ow0 Hb (.Assign [.Name y py] (.ListComp elt [⟨tg, iter, ifs, 0⟩] scope pos) spos) (wSetD i (wThaw j (wLc wi b tt we (own.map (·.2))))) := by
  intro S ρ σ H ow E D r w o
  obtain ⟨ρ', ow', r', w', g'⟩ := r.thawed g0 w
  refine sim_setLcG i hc hN g0 hi ok his hg ht he hy hyl hsw hs r' w' (g' _ fun t v H' p e z q => ?_) (fun x cls d H' z => z.elim)
  dsimp only at p
  split at p
  · rename_i d ed
    exact o.nx _ _ H' ow p ((r.step e z).setD (q.kp ed))
  · exact p.elim
theorem sim_setLcT (i j : Nat) {y : Str} {py : Pos} {tg iter elt : Expr} {ifs : List Expr} {scope : Scope} {own : List (Str × Nat)} {pos spos : Pos} {wi : WI} {b : WB} {is : List Nat} {tt : WT} {we : WE} (hc : X.calm = true) (hN : X.N.Nodup) (g0 : Gr Z ow0 Hb) (hi : SimI X W Z CL ow0 Hb tg iter wi) (ok : BlkOk X.N X.env.scope scope own) (his : ∀ i ∈ is, i ∈ own.map (·.2))
    (hg : InBlk X scope fun Y => SimB Y Z CL ow0 Hb tg b is) (ht : InBlk X scope fun Y => SimTs Y W0 Z CL ow0 Hb ifs tt) (he : InBlk X scope fun Y => SimE Y W0 Z CL ow0 Hb elt we)
    (hy : X.N[i]? = some y := by rfl) (hyl : X.env.scope.names.lookup y = some .local := by rfl) (hsw : swapsWith (.ListComp elt [⟨tg, iter, ifs, 0⟩] scope pos) (some (.Name y py)) spos.line X.env = pure true := by exact sw_true rfl rfl rfl (by decide +kernel))
    (hs : ∀ x, foldedSetIterable iter X.env x = pure x := by intro _; rfl) : SimS X W Z CL ow0 Hb (.Assign [.Name y py] (.ListComp elt [⟨tg, iter, ifs, 0⟩] scope pos) spos) (wSet i (wThaw j (wLc wi b tt we (own.map (·.2))))) := by
  intro S ρ σ H ow E D r w o
  obtain ⟨ρ', ow', r', w', g'⟩ := r.thawed g0 w
  refine sim_setLcG i hc hN g0 hi ok his hg ht he hy hyl hsw hs r' w' (g' _ fun t v H' p e z q => ?_) (fun x cls d H' z => z.elim)
  dsimp only at p
  split at p
  · rename_i t' et
    have et' := slv_eq et
    subst et'
    obtain ⟨ow'', r''⟩ := r.set (i := i) e z q et
    exact o.nx _ _ H' ow'' p r''
  · exact p.elim
def wThawT (i : Nat) (w : WT) : WT := fun ρ P _ => match ρ[i]? with
  | some (some (.own xs)) => w (ρ.set i (some (.d (.list xs)))) P (fun _ => False)
  | _ => False
theorem sim_thawT (i : Nat) {e : Expr} {we : WT} (g0 : Gr Z ow0 Hb) (h : SimT X W Z CL ow0 Hb e we) : SimT X W Z CL ow0 Hb e (wThawT i we) := by
  intro S ρ σ H ow P Ex Q r w g b
  unfold wThawT at w
  split at w
  · rename_i xs hi
    obtain ⟨p, us, hp, hf, r'⟩ := r.thaw g0 hi
    exact h S _ σ H _ _ _ Q r' w g fun x cls d H' z => z.elim
  · exact w.elim
end
theorem hcl_of {cs : Clz} : ∀ c wd fs, (c, wd, fs) ∈ cs → c ∈ cs.map (·.1) := fun c wd fs h => List.mem_map.mpr ⟨(c, wd, fs), h, rfl⟩
end Pd

/-! Pd38: is None, is not None, a < b < c as tests. -/
namespace Pd
open PySem PySem.Spec PyProof.Rows L2
section
variable {X : Cx} {W : WX} {Z : Ext} {CL : Calls} {ow0 : List Addr} {Hb : Hp} {pos : Pos}
theorem sim_tisN {e : Expr} {we : WE} {j p2} (h : SimE X W Z CL ow0 Hb e we) : SimT X W Z CL ow0 Hb (.Compare e [.Is] [.Constant .none j p2] pos) (wTv (wIsN false we)) := by
  intro S ρ σ H ow P Ex Q r w g bd
  refine PTat.of (pt_cmp (pc_isN PEat.pe) rfl) (h S ρ σ H ow _ Ex _ r w (fun y v H' p e z h => ?_) bd)
  rw [h.isNon]
  rw [Bool.false_xor] at p
  exact ⟨_, rfl, g _ H' p e z⟩
theorem sim_tnotN {e : Expr} {we : WE} {j p2} (h : SimE X W Z CL ow0 Hb e we) : SimT X W Z CL ow0 Hb (.Compare e [.IsNot] [.Constant .none j p2] pos) (wTv (wIsN true we)) := by
  intro S ρ σ H ow P Ex Q r w g bd
  refine PTat.of (pt_cmp (pc_notN PEat.pe) rfl) (h S ρ σ H ow _ Ex _ r w (fun y v H' p e z h => ?_) bd)
  rw [h.isNon]
  rw [Bool.true_xor] at p
  exact ⟨_, rfl, g _ H' p e z⟩
theorem sim_tchain {a b c : Expr} {wa wb wc : WE} {o o2 : CmpOp} {op op2 : Op2} (ho : OpR X (compareOp o) (rD CL Z X.K op)) (ho2 : OpR X (compareOp o2) (rD CL Z X.K op2)) (ha : SimE X W Z CL ow0 Hb a wa) (hb : SimE X W Z CL ow0 Hb b wb) (hc : SimE X W Z CL ow0 Hb c wc)
    (hm : lastMarks [o, o2] [b, c] = false := by rfl) :
    SimT X W Z CL ow0 Hb (.Compare a [o, o2] [b, c] pos) (wTv (wChain op op2 wa wb wc)) := by
  intro S ρ σ H ow P Ex Q r w g bd
  refine PTat.of (pt_chain ho ho2 PEat.pe PEat.pe PEat.pe hm) ?_
  refine two ha hb r bd w fun x y v u H' q e z h1 h2 => ⟨ow, H, x, y, _, r.gr.step e z, h1, h2, q, fun k t H'' p' e' z' q' => ?_⟩
  cases k with
  | d k =>
    cases k with
    | bool k =>
      cases (q' : Dt X.K (hid ow H'') t (.bool k))
      refine ⟨k, rfl, ?_⟩
      cases k with
      | true =>
        refine hc S ρ σ H'' ow _ Ex _ (r.step (e.trans e') z') p' (fun y3 v3 H3 p3 e3 z3 h3 => ?_) (bd.step (e.trans e'))
        refine ⟨ow, H, y, y3, _, r.gr.step ((e.trans e').trans e3) z3, h2.stay (e'.trans e3) r.gr.fpo, h3.back (e.trans e') r.gr.fpo, p3, fun y v H4 p4 e4 z4 q4 => ?_⟩
        cases y with
        | d x =>
          cases x with
          | bool c =>
            cases (q4 : Dt X.K (hid ow H4) v (.bool c))
            exact ⟨c, rfl, g c H4 p4 (((e.trans e').trans e3).trans e4) z4⟩
          | _ => exact (p4 : False).elim
        | _ => exact (p4 : False).elim
      | false => exact ⟨false, rfl, g false H'' p' (e.trans e') z'⟩
    | _ => exact (p' : False).elim
  | _ => exact (p' : False).elim
end
end Pd

/-! Pd39: sorted({k: True for ..}), the keys whole numbers. -/
namespace Pd
open PySem PySem.Spec PyProof.Rows L2
theorem nt_dK {xs : List (L2.Key × V)} : NT (.dK xs) := fun _ z => nomatch z
theorem rz_updK {Z : Ext} {H : Hp} {p : Addr} {us : List (L2.Key × V)} {o : HO} (h : RZ Z H) (n : p ∉ fp Z) (e : H p = some (.dK us)) : RZ Z (upd H p o) := by
  refine ⟨h.bag.frame fun a m => upd_ne fun q => n (q ▸ m), fun t ht => ?_, fun p' m => ?_⟩
  rotate_left
  · rw [upd_ne (ne_of (h.fns p' m) e (by intro z; cases z))]
    exact h.fns p' m
  obtain ⟨ps, h1, h2, h3⟩ := h.tabs t ht
  refine ⟨ps, by rw [upd_ne (ne_of h1 e (by intro z; cases z))]; exact h1, h2, fun pos cv hc => ?_⟩
  obtain ⟨c, e1, e2⟩ := h3 pos cv hc
  exact ⟨c, e1, by rw [upd_ne (ne_of e2 e (by intro z; unfold LamX.CodeO at z; cases z))]; exact e2⟩
section
variable {X : Cx} {W : WX} {Z : Ext} {CL : Calls} {ow0 : List Addr} {Hb : Hp}
/-- an owned dict of no slot is written -/
theorem RelL.putD {S : Hp} {ρ : Ev} {σ : L2.St} {H : Hp} {ow : List Addr} {p : Addr} {us vs : List (L2.Key × V)} (r : RelL CL Z X.K ow0 Hb S ρ σ H ow p) (hu : H p = some (.dK us)) (hp : p ∈ ow) (hf : p ∉ fp Z) (hb : New Hb p) : RelL CL Z X.K ow0 Hb S ρ σ (upd H p (.dK vs)) ow p :=
  r.putO (rz_updK r.r.gr.ext hf hu) nt_dK hp hb
theorem putK_old {kvs : List (L2.Key × V)} {k : L2.Key} (v : V) (h : k ∈ kvs.map (·.1)) : (putK kvs k v).map (·.1) = kvs.map (·.1) := by
  unfold putK
  have e : (kvs.any fun kv => decide (kv.1 = k)) = true := by
    obtain ⟨p, m, e⟩ := List.mem_map.mp h
    exact List.any_eq_true.mpr ⟨p, m, decide_eq_true e⟩
  rw [if_pos e, List.map_map]
  refine List.map_congr_left fun p _ => ?_
  show (if p.1 = k then (p.1, v) else p).1 = p.1
  split <;> rfl
theorem putK_fresh {kvs : List (L2.Key × V)} {k : L2.Key} (v : V) (h : k ∉ kvs.map (·.1)) : (putK kvs k v).map (·.1) = kvs.map (·.1) ++ [k] := by
  unfold putK
  have e : ¬ (kvs.any fun kv => decide (kv.1 = k)) = true := fun z => by
    obtain ⟨p, m, e⟩ := List.any_eq_true.mp z
    exact h (List.mem_map.mpr ⟨p, m, of_decide_eq_true e⟩)
  rw [if_neg e, List.map_append]
  rfl
def wIntE (w : WE) : WE := fun ρ P Ex => w ρ (fun y => match y.rd with
  | some (.int k) => P (.d (.int k))
  | _ => False) Ex
def wSortedKeys (wi : WI) (b : WB) (tt : WT) (wk : WE) (vs : List Nat) : WE := fun ρ P Ex => wi ρ (fun ds => lcW b tt (wIntE wk) (wipeE ρ vs) (fun acc => acc.length < 64 ∧ ∀ ns out : List Int, acc = ns.map .int → out.Pairwise (· < ·) → (∀ k, k ∈ out ↔ k ∈ ns) → P (.own (out.map .int))) ds []) Ex
/-- a dict whose keys are these numbers -/
def KeysOf (kvs : List (L2.Key × V)) (acc : List D) : Prop := ∃ ns ks : List Int, acc = ns.map .int ∧ kvs.map (·.1) = ks.map Sum.inl ∧ ks.Nodup ∧ (∀ k, k ∈ ks ↔ k ∈ ns) ∧ ks.length ≤ ns.length
theorem KeysOf.put {kvs : List (L2.Key × V)} {acc : List D} (h : KeysOf kvs acc) (k : Int) (v : V) : KeysOf (putK kvs (.inl k) v) (acc ++ [.int k]) := by
  obtain ⟨ns, ks, e1, e2, nd, hm, hl⟩ := h
  have mem : (Sum.inl k : L2.Key) ∈ kvs.map (·.1) ↔ k ∈ ks := by
    rw [e2, List.mem_map]
    exact ⟨fun ⟨a, m, e⟩ => by cases e; exact m, fun m => ⟨k, m, rfl⟩⟩
  by_cases h : k ∈ ks
  · refine ⟨ns ++ [k], ks, by rw [e1]; simp, by rw [putK_old _ (mem.mpr h)]; exact e2, nd, fun j => ?_, by rw [List.length_append]; omega⟩
    rw [List.mem_append, List.mem_singleton, ← hm]
    exact ⟨.inl, fun z => z.elim id fun e => e ▸ h⟩
  · refine ⟨ns ++ [k], ks ++ [k], by rw [e1]; simp, by rw [putK_fresh _ (fun z => h (mem.mp z)), e2, List.map_append]; rfl, ?_, fun j => ?_, by simp only [List.length_append, List.length_cons, List.length_nil]; omega⟩
    · exact List.nodup_append.mpr ⟨nd, List.pairwise_singleton _ _, fun a ma b mb e => by rw [List.mem_singleton.mp mb] at e; exact h (e ▸ ma)⟩
    · rw [List.mem_append, List.mem_append, hm]
theorem dk_sound {tg iter kx vx : Expr} {ifs : List Expr} {scope : Scope} {wi : WI} {b : WB} {is : List Nat} {tt : WT} {wk : WE} {vs : List Nat} (hi : SimI X W Z CL ow0 Hb tg iter wi) (his : ∀ i ∈ is, i ∈ vs)
    (g0 : Gr Z ow0 Hb)
    {g : TG} {t : TT} {tk tv : TE}
    (hg : ∀ {S : Hp} {ρ : Ev} {σ : L2.St} {H : Hp} {ow : List Addr} {d : D} {v : V} {k : Ev → Prop} {Q : L2.St → Hp → Prop}, Rel CL Z X.K ow0 Hb S ρ σ H ow → Dt X.K (hid ow H) v d → b ρ d k → (∀ ρ' σ', k ρ' → Rel CL Z X.K ow0 Hb S ρ' σ' H ow → OnlyE is ρ σ ρ' σ' → Q σ' H) → g v σ H Q)
    (ht : ∀ {S : Hp} {ρ : Ev} {σ : L2.St} {H : Hp} {ow : List Addr} {P : Bool → Prop} {Q : Bool → Hp → Prop}, Rel CL Z X.K ow0 Hb S ρ σ H ow → tt ρ P (fun _ => False) → GdT Z H P Q → t σ H Q)
    (he : ∀ {S : Hp} {ρ : Ev} {σ : L2.St} {H : Hp} {ow : List Addr} {P : Val → Prop} {Q : VK}, Rel CL Z X.K ow0 Hb S ρ σ H ow → wk ρ P (fun _ => False) → Gd CL Z X.K ow H P Q → tk σ H Q)
    (hv : ∀ {σ : L2.St} {H : Hp} {Q : VK}, Q (.bl true) H → tv σ H Q)
    {S : Hp} {ρ : Ev} {σ : L2.St} {H : Hp} {ow : List Addr} {P : Val → Prop} {Ex : Xn → Prop} {Q : VK} (r : Rel CL Z X.K ow0 Hb S ρ σ H ow) (w : wSortedKeys wi b tt wk vs ρ P Ex) (gd : Gd CL Z X.K ow H P Q) (bd : Bd Z X.K ow X.mg W σ H Ex) :
    tDc (fun σ H R => PIat X tg iter σ H fun J H' => Held X H' → R J H') g t tk tv vs σ H fun x H => ∃ (a : Addr) (kvs : List (L2.Key × V)) (ks : List Int), [x] = [V.ref a] ∧ Rd H a (.dK kvs) ∧ kvs.map (·.1) = ks.map Sum.inl ∧ ks.length < 64 ∧
      ∀ (ys : List Int) (p : Addr), ys.Perm ks → ys.Pairwise (· ≤ ·) → H p = none → Q (.ref p) (upd H p (.lst (ys.map V.int))) := by
  refine hi S ρ σ H ow _ _ _ r w (fun ds J H1 p e z hJ hlen => fun hh => ?_) bd
  intro L hL
  have hsz := hlen hh
  have r1 := (r.step e z).remark (S' := hid ow H1) (.refl _)
  have hLz : L ∉ fp Z := fun m => r1.gr.no (.of hL) (r1.gr.fpo L m)
  have hLb : New Hb L := r1.sb.free hLz (.of hL)
  have hLow : L ∉ ow := r1.gr.no (.of hL)
  have r2 : RelL CL Z X.K ow0 Hb (hid ow H1) ρ σ (upd H1 L (.dK [])) (L :: ow) L := r1.moreL (SameBut.new hL) (z.le (Le.new hL)) (.of hL) ⟨_, nt_dK, upd_same⟩
  -- between two turns
  refine ⟨fun i m H => m = ds.length - i ∧ i ≤ ds.length ∧ ∃ acc us, lcW b tt (wIntE wk) (wipeE ρ vs) (fun acc => acc.length < 64 ∧ ∀ ns out : List Int, acc = ns.map .int → out.Pairwise (· < ·) → (∀ k, k ∈ out ↔ k ∈ ns) → P (.own (out.map .int))) (ds.drop i) acc ∧ acc.length ≤ i ∧ H L = some (.dK us) ∧ KeysOf us acc ∧ RelL CL Z X.K ow0 Hb (hid ow H1) ρ σ H (L :: ow) L ∧ SameBut (fp Z) H1 H, ⟨ds.length, by simp, Nat.zero_le _, [], [], p, Nat.le_refl _, upd_same, ⟨[], [], rfl, rfl, .nil, fun _ => Iff.rfl, Nat.le_refl _⟩, r2, SameBut.new hL⟩, ?_⟩
  rintro i m H2 ⟨rfl, hi2, acc, us, p2, hacc, hL2, ha2, r3, sb2⟩
  have le : Le (hid ow H1) H2 := r3.r.mark.trans hid_le
  by_cases hlt : i < ds.length
  · refine .inr ⟨hJ.go i H2 le hlt, fun H => ∃ acc us, lcW b tt (wIntE wk) (wipeE ρ vs) (fun acc => acc.length < 64 ∧ ∀ ns out : List Int, acc = ns.map .int → out.Pairwise (· < ·) → (∀ k, k ∈ out ↔ k ∈ ns) → P (.own (out.map .int))) (ds.drop (i + 1)) acc ∧ acc.length ≤ i + 1 ∧ H L = some (.dK us) ∧ KeysOf us acc ∧ RelL CL Z X.K ow0 Hb (hid ow H1) ρ σ H (L :: ow) L ∧ SameBut (fp Z) H1 H, fun H' q => ⟨ds.length - (i + 1), by omega, rfl, hlt, q⟩, fun x H' y => ?_⟩
    have hd : ds[i]? = some ds[i] := by simp [hlt]
    obtain ⟨l1, l2⟩ := hJ.yld i H2 x H' (L :: ow) _ r3.r.gr.isS r3.r.mark hd y
    rw [List.drop_eq_getElem_cons hlt] at p2
    have r4 := r3.step (.of_le l1) (r3.r.gr.ext.le l1)
    refine hg (r4.r.wiped vs) l2 p2 fun ρ5 σ5 p5 r5 o5 => ⟨by rw [(o5.1.mono his).wipe, wipe_wipe], ?_⟩
    refine ht r5 p5 fun c H6 p6 e6 z6 => ?_
    have r6 := r4.step e6 z6
    have hL6 : H6 L = some (.dK us) := e6 L _ hLz nt_dK (l1 _ _ hL2)
    have sb6 : SameBut (fp Z) H1 H6 := sb2.trans ((SameBut.of_le l1).trans e6)
    cases c with
    | false =>
      rw [if_neg (by decide)] at p6 ⊢
      exact ⟨acc, us, p6, Nat.le_succ_of_le hacc, hL6, ha2, r6, sb6⟩
    | true =>
      rw [if_pos rfl] at p6 ⊢
      refine he (r5.step e6 z6) p6 fun v y H7 p7 e7 z7 q7 => ?_
      split at p7
      · rename_i k ed
        have ev := q7.int ed
        subst ev
        refine hv ?_
        have hL7 : H7 L = some (.dK us) := e7 L _ hLz nt_dK hL6
        have r7 := r6.step e7 z7
        obtain ⟨ns, ks, f1, f2, f3, f4, f5⟩ := ha2
        have ul : us.length ≤ i := by
          have := congrArg List.length f2
          rw [List.length_map, List.length_map] at this
          have := congrArg List.length f1
          rw [List.length_map] at this
          omega
        refine ⟨us, .inl k, rfl, hL7, by omega, acc ++ [PyData.int k], putK us (.inl k) (.bl true), p7, by simp; omega, upd_same, KeysOf.put ⟨ns, ks, f1, f2, f3, f4, f5⟩ k _, ?_, fun a u n t q => ?_⟩
        · exact r7.putD hL7 List.mem_cons_self hLz hLb
        · have ne : a ≠ L := fun e => by rw [e, hL] at q; cases q
          rw [upd_ne ne]
          exact e7 a u n t (sb6 a u n t q)
      · exact p7.elim
  · have ei : i = ds.length := by omega
    subst ei
    rw [List.drop_length] at p2
    refine .inl ⟨hJ.stop H2 le, ?_⟩
    obtain ⟨ns, ks, f1, f2, f3, f4, f5⟩ := ha2
    obtain ⟨p2l, p2⟩ := p2
    have al : acc.length = ns.length := by rw [f1, List.length_map]
    refine ⟨L, us, ks, rfl, .of hL2, f2, by omega, fun ys q hp hs hq => ?_⟩
    have hnd : ys.Pairwise (· ≠ ·) := hp.nodup_iff.mpr f3
    have lt : ys.Pairwise (· < ·) := (hs.and hnd).imp fun {a b} z => by have := z.1; have := z.2; omega
    have pq := p2 ns ys f1 lt fun k => (hp.mem_iff).trans (f4 k)
    have hqz : q ∉ fp Z := fun m => r3.r.gr.no (.of hq) (r3.r.gr.fpo q m)
    have hqo : q ∉ ow := fun m => r3.r.gr.no (.of hq) (List.mem_cons_of_mem _ m)
    have sbq : SameBut (fp Z) H (upd H2 q (.lst (ys.map V.int))) := (e.trans sb2).trans (SameBut.new hq)
    refine gd (.own (ys.map .int)) _ _ pq sbq (r3.r.gr.ext.le (Le.new hq)) ⟨q, ys.map V.int, rfl, (e.trans sb2).free hqz (.of hq), hqo, upd_same, DtAll.ofInts ys⟩
theorem sim_sortedKeys {tg iter kx : Expr} {ifs : List Expr} {scope : Scope} {own : List (Str × Nat)} {p pos pos' : Pos} {jv pv} {wi : WI} {b : WB} {is : List Nat} {tt : WT} {wk : WE} (hc : X.calm = true) (hN : X.N.Nodup) (g0 : Gr Z ow0 Hb) (hgl : Gl X "sorted") (hm : X.mg "sorted" = none) (hi : SimI X W Z CL ow0 Hb tg iter wi) (ok : BlkOk X.N X.env.scope scope own) (his : ∀ i ∈ is, i ∈ own.map (·.2))
    (hg : InBlk X scope fun Y => SimB Y Z CL ow0 Hb tg b is) (ht : InBlk X scope fun Y => SimTs Y W0 Z CL ow0 Hb ifs tt) (he : InBlk X scope fun Y => SimE Y W0 Z CL ow0 Hb kx wk)
    (hs : ∀ x, foldedSetIterable iter X.env x = pure x := by intro _; rfl)
    (hst : starEach [.DictComp kx (.Constant (.bool true) jv pv) [⟨tg, iter, ifs, 0⟩] scope pos'] X.env = (false, eval (.DictComp kx (.Constant (.bool true) jv pv) [⟨tg, iter, ifs, 0⟩] scope pos') X.env) :: starEach [] X.env := by rfl)
    (hpl : (backTo pos (starEach [] X.env)).any (·.1) = false := by rfl) :
    SimE X W Z CL ow0 Hb (.Call (.Name "sorted" p) [.DictComp kx (.Constant (.bool true) jv pv) [⟨tg, iter, ifs, 0⟩] scope pos'] [] pos) (wSortedKeys wi b tt wk (own.map (·.2))) := by
  intro S ρ σ H ow P Ex Q r w g bd
  have dc := pe_dc (X := X) (kx := kx) (vx := .Constant (.bool true) jv pv) (pos := pos') (g := fun v σ H Q => InBlk X scope fun Y => PGat Y tg v σ H Q) (tt := fun σ H Q => InBlk X scope fun Y => PTsat Y ifs σ H Q) (tk := fun σ H Q => InBlk X scope fun Y => PEat Y kx σ H Q) (tv := fun σ H Q => Q (.bl true) H) hc hN PIat.pi ok (fun s H C cl fp => ⟨fun pins s' σ H' v u Q I rv h => (h s H C cl fp).go pins s' u I rv⟩) (fun s H C cl fp => ⟨fun pins s' σ H' Q I h => (h s H C cl fp).go pins s' I⟩) (fun s H C cl fp => ⟨fun pins s' σ H' Q I h => (h s H C cl fp).go pins s' I⟩) (fun s H C cl fp => pe_bl) hs
  refine PEat.of (pe_callB (call_sortedDI hc) hgl hm PyProof.Rows.boot_sorted (pa_cons dc pa_nil hst) (by decide) (by decide) hst hpl) ?_
  refine dk_sound (X := X) (W := W) (Z := Z) (CL := CL) (ow0 := ow0) (Hb := Hb) (kx := kx) (vx := .Constant (.bool true) jv pv) (ifs := ifs) (scope := scope) (g := fun v σ H Q => InBlk X scope fun Y => PGat Y tg v σ H Q) (t := fun σ H Q => InBlk X scope fun Y => PTsat Y ifs σ H Q) (tk := fun σ H Q => InBlk X scope fun Y => PEat Y kx σ H Q) (tv := fun σ H Q => Q (.bl true) H) hi his g0 (fun r h w g s H C cl fp => ?_) (fun r w g s H C cl fp => ?_) (fun r w g s H C cl fp => ?_) (fun h => h) r w g bd
  · exact hg s H C cl fp _ _ _ _ _ _ _ _ _ r h w g
  · exact ht s H C cl fp _ _ _ _ _ _ _ _ r w g fun _ _ _ _ z => z.elim
  · exact he s H C cl fp _ _ _ _ _ _ _ _ r w g fun _ _ _ _ z => z.elim
end
end Pd

/-! Pd41: trees: their parts, a part changed. -/
namespace Pd
open PySem PySem.Spec PyProof.Rows L2
/-! ### lists of trees -/
section
variable {K : PySem.W.Frag} {ns : Nst} {Hd Hd' H H' : Hp}
theorem TrAll.len : ∀ {vs : List V} {ts : List Tr} {as : List Addr}, TrAll K ns Hd H vs ts as → vs.length = ts.length
  | _, _, _, .nil => rfl
  | _, _, _, .cons _ t => by simp [t.len]
/-- a part; and the whole with that part otherwise -/
theorem TrAll.upd : ∀ {vs : List V} {ts : List Tr} {as : List Addr} {i : Nat} {t : Tr}, TrAll K ns Hd H vs ts as → as.Nodup → ts[i]? = some t → ∃ v b0, vs[i]? = some v ∧ TrAt K ns Hd H v t b0 ∧ b0.Nodup ∧ (∀ b ∈ b0, b ∈ as) ∧
    ∀ {Hd' H' : Hp} {v' : V} {t' : Tr} {b' : List Addr}, Le Hd Hd' → (∀ a ∈ as, a ∉ b0 → ∀ o, NT o → H a = some o → H' a = some o) → TrAt K ns Hd' H' v' t' b' → b'.Nodup → (∀ b ∈ b', b ∈ b0 ∨ b ∉ as) → ∃ cs, TrAll K ns Hd' H' (vs.set i v') (ts.set i t') cs ∧ cs.Nodup ∧ ∀ c ∈ cs, (c ∈ as ∧ c ∉ b0) ∨ c ∈ b'
  | _, _, _, _, _, .nil, _, e => by cases e
  | _, _, _, 0, _, .cons (v := v) (vs := vs) (t := t) (ts := ts) (as := as) (bs := bs) h r, nd, e => by
    cases e
    obtain ⟨n1, n2, n3⟩ := List.nodup_append.mp nd
    refine ⟨v, as, rfl, h, n1, fun b m => List.mem_append_left _ m, fun {Hd' H' v' t' b'} le ag h' nb inb => ⟨b' ++ bs, .cons h' (r.mono le fun a m => ag a (List.mem_append_right _ m) fun z => n3 a z a m rfl), ?_, fun c m => ?_⟩⟩
    · refine List.nodup_append.mpr ⟨nb, n2, fun a m b mb e => ?_⟩
      subst e
      rcases inb a m with z | z
      · exact n3 a z a mb rfl
      · exact z (List.mem_append_right _ mb)
    · rcases List.mem_append.mp m with m | m
      · exact .inr m
      · exact .inl ⟨List.mem_append_right _ m, fun z => n3 c z c m rfl⟩
  | _, _, _, i + 1, _, .cons (v := v) (vs := vs) (t := t) (ts := ts) (as := as) (bs := bs) h r, nd, e => by
    obtain ⟨n1, n2, n3⟩ := List.nodup_append.mp nd
    obtain ⟨u, b0, g1, g2, g3, g4, g5⟩ := TrAll.upd (i := i) r n2 (by simpa using e)
    have off : ∀ a ∈ as, a ∉ b0 := fun a m z => n3 a m a (g4 a z) rfl
    refine ⟨u, b0, by simpa using g1, g2, g3, fun b m => List.mem_append_right _ (g4 b m), fun {Hd' H' v' t' b'} le ag h' nb inb => ?_⟩
    obtain ⟨cs, c1, c2, c3⟩ := g5 le (fun a m => ag a (List.mem_append_right _ m)) h' nb fun b m => (inb b m).imp id fun z q => z (List.mem_append_right _ q)
    refine ⟨as ++ cs, .cons (h.mono le fun a m => ag a (List.mem_append_left _ m) (off a m)) c1, ?_, fun c m => ?_⟩
    · refine List.nodup_append.mpr ⟨n1, c2, fun a m b mb e => ?_⟩
      subst e
      rcases c3 a mb with z | z
      · exact n3 a m a z.1 rfl
      · rcases inb a z with q | q
        · exact off a m q
        · exact q (List.mem_append_left _ m)
    · rcases List.mem_append.mp m with m | m
      · exact .inl ⟨List.mem_append_left _ m, off c m⟩
      · exact (c3 c m).imp (fun z => ⟨List.mem_append_right _ z.1, z.2⟩) id
theorem TrAll.snoc : ∀ {vs : List V} {ts : List Tr} {as : List Addr} {v : V} {t : Tr} {bs : List Addr}, TrAll K ns Hd H vs ts as → TrAt K ns Hd H v t bs → TrAll K ns Hd H (vs ++ [v]) (ts ++ [t]) (as ++ bs)
  | _, _, _, _, _, bs, .nil, h => by
    have := TrAll.cons h (.nil (K := K) (ns := ns) (Hd := Hd) (H := H))
    rw [List.append_nil] at this
    exact this
  | _, _, _, _, _, _, .cons a r, h => by
    rw [List.append_assoc]
    exact .cons a (r.snoc h)
theorem TrAll.dropAt : ∀ {vs : List V} {ts : List Tr} {as : List Addr} (i : Nat), TrAll K ns Hd H vs ts as → as.Nodup → ∃ cs, TrAll K ns Hd H (vs.eraseIdx i) (ts.eraseIdx i) cs ∧ cs.Nodup ∧ ∀ c ∈ cs, c ∈ as
  | _, _, _, _, .nil, _ => ⟨[], .nil, .nil, fun _ m => m⟩
  | _, _, _, 0, .cons h r, nd => ⟨_, r, (List.nodup_append.mp nd).2.1, fun c m => List.mem_append_right _ m⟩
  | _, _, _, i + 1, .cons (as := as) (bs := bs) h r, nd => by
    obtain ⟨n1, n2, n3⟩ := List.nodup_append.mp nd
    obtain ⟨cs, c1, c2, c3⟩ := r.dropAt i n2
    refine ⟨as ++ cs, .cons h c1, List.nodup_append.mpr ⟨n1, c2, fun a m b mb e => n3 a m b (c3 b mb) e⟩, fun c m => ?_⟩
    rcases List.mem_append.mp m with m | m
    · exact List.mem_append_left _ m
    · exact List.mem_append_right _ (c3 c m)
end
/-! ### dicts over data -/
def kIx (kvs : List (D × Tr)) (k : D) : Option Nat := kvs.findIdx? fun e => PyData.eqv e.1 k
def dget (kvs : List (D × Tr)) (k : D) : Option Tr := (kvs.find? fun e => PyData.eqv e.1 k).map (·.2)
def dput (kvs : List (D × Tr)) (k : D) (t : Tr) : List (D × Tr) := match kIx kvs k with
  | some i => kvs.set i ((kvs.getD i (k, t)).1, t)
  | none => kvs ++ [(k, t)]
def ddrop (kvs : List (D × Tr)) (k : D) : List (D × Tr) := match kIx kvs k with
  | some i => kvs.eraseIdx i
  | none => kvs
theorem eqv_key (a b : L2.Key) : PyData.eqv (keyD a) (keyD b) = decide (a = b) := by
  cases a <;> cases b <;> simp [keyD, PyData.eqv]
  · rw [Bool.eq_iff_iff]; simp
  · rw [Bool.eq_iff_iff]; simp

/-! ### parts by place -/
def Tr.kids : Tr → List Tr
  | .ls ts => ts
  | .dc _ _ kvs => kvs.map (·.2)
  | .ob _ fs => fs.map (·.2)
  | _ => []
def setSnd {α : Type} : List (α × Tr) → Nat → Tr → List (α × Tr)
  | [], _, _ => []
  | e :: r, 0, s => (e.1, s) :: r
  | e :: r, j + 1, s => e :: setSnd r j s
theorem setSnd_fst {α : Type} : ∀ (l : List (α × Tr)) (j : Nat) (s : Tr), (setSnd l j s).map (·.1) = l.map (·.1)
  | [], _, _ => rfl
  | e :: r, 0, s => rfl
  | e :: r, j + 1, s => by rw [setSnd, List.map_cons, setSnd_fst r j s, List.map_cons]
theorem setSnd_snd {α : Type} : ∀ (l : List (α × Tr)) (j : Nat) (s : Tr), (setSnd l j s).map (·.2) = (l.map (·.2)).set j s
  | [], _, _ => rfl
  | e :: r, 0, s => rfl
  | e :: r, j + 1, s => by rw [setSnd, List.map_cons, setSnd_snd r j s, List.map_cons, List.set_cons_succ]
def Tr.setKid : Tr → Nat → Tr → Tr
  | .ls ts, j, s => .ls (ts.set j s)
  | .dc l lk kvs, j, s => .dc l lk (setSnd kvs j s)
  | .ob c fs, j, s => .ob c (setSnd fs j s)
  | t, _, _ => t
def Tr.sub : Tr → List Nat → Option Tr
  | t, [] => some t
  | t, j :: π => match t.kids[j]? with
    | some c => c.sub π
    | none => none
def Tr.putAt : Tr → List Nat → Tr → Tr
  | _, [], s => s
  | t, j :: π, s => match t.kids[j]? with
    | some c => t.setKid j (c.putAt π s)
    | none => t
theorem Tr.sub_snoc {j : Nat} {c t : Tr} (hk : t.kids[j]? = some c) : ∀ {π : List Nat} {T : Tr}, T.sub π = some t → T.sub (π ++ [j]) = some c
  | [], T, h => by
    cases h
    show (match t.kids[j]? with
      | some c => c.sub []
      | none => none) = _
    rw [hk]
    rfl
  | i :: π, T, h => by
    unfold Tr.sub at h
    show (match T.kids[i]? with
      | some c => c.sub (π ++ [j])
      | none => none) = _
    split at h
    · exact Tr.sub_snoc hk h
    · cases h
theorem Tr.putAt_snoc {j : Nat} {c t s : Tr} (hk : t.kids[j]? = some c) : ∀ {π : List Nat} {T : Tr}, T.sub π = some t → T.putAt (π ++ [j]) s = T.putAt π (t.setKid j s)
  | [], T, h => by
    cases h
    show (match t.kids[j]? with
      | some c => t.setKid j (c.putAt [] s)
      | none => t) = _
    rw [hk]
    rfl
  | i :: π, T, h => by
    unfold Tr.sub at h
    show (match T.kids[i]? with
      | some c => T.setKid i (c.putAt (π ++ [j]) s)
      | none => T) = (match T.kids[i]? with
      | some c => T.setKid i (c.putAt π (t.setKid j s))
      | none => T)
    split at h
    · rename_i c' e
      show T.setKid i (c'.putAt (π ++ [j]) s) = _
      rw [Tr.putAt_snoc hk h]
    · cases h
section
variable {K : PySem.W.Frag} {ns : Nst} {Hd H : Hp}
/-- u is the part j of what stands at v -/
def HKid (H : Hp) (v : V) (j : Nat) (u : V) : Tr → Prop
  | .ob _ gs => ∃ p C dx fs, v = .ref p ∧ H p = some (.ins C dx fs) ∧ fs.map (·.1) = gs.map (·.1) ∧ (fs.map (·.2))[j]? = some u
  | .dc .k lk kvs => ∃ p o us, v = .ref p ∧ H p = some o ∧ Lkd lk (.dK us) o ∧ us.map (fun e => keyD e.1) = kvs.map (·.1) ∧ (us.map (·.1)).Nodup ∧ (us.map (·.2))[j]? = some u
  | .ls _ => ∃ p vs, v = .ref p ∧ H p = some (.lst vs) ∧ vs[j]? = some u
  | _ => True
theorem set_self {α : Type} {l : List α} {j : Nat} {u : α} (h : l[j]? = some u) : l.set j u = l := by
  apply List.ext_getElem?
  intro k
  by_cases e : k = j
  · subst e
    rw [h, List.getElem?_set_self (List.getElem?_eq_some_iff.mp h).1]
  · rw [List.getElem?_set_ne (Ne.symm e)]
theorem TrAt.kid {v : V} {t c : Tr} {j : Nat} {as : List Addr} (h : TrAt K ns Hd H v t as) (nd : as.Nodup) (e : t.kids[j]? = some c) : ∃ u b0, HKid H v j u t ∧ TrAt K ns Hd H u c b0 ∧ b0.Nodup ∧ (∀ b ∈ b0, b ∈ as) ∧
    ∀ {Hd' H' : Hp} {t' : Tr} {b' : List Addr}, Le Hd Hd' → (∀ a ∈ as, a ∉ b0 → ∀ o, NT o → H a = some o → H' a = some o) → TrAt K ns Hd' H' u t' b' → b'.Nodup → (∀ b ∈ b', b ∈ b0 ∨ b ∉ as) → ∃ cs, TrAt K ns Hd' H' v (t.setKid j t') cs ∧ cs.Nodup ∧ ∀ c ∈ cs, (c ∈ as ∧ c ∉ b0) ∨ c ∈ b' := by
  cases h with
  | d h => cases e
  | own h g => cases e
  | ls h g =>
    rename_i p vs ts as
    obtain ⟨n1, n2⟩ := List.nodup_cons.mp nd
    obtain ⟨u, b0, g1, g2, g3, g4, g5⟩ := g.upd n2 e
    have pn : p ∉ b0 := fun m => n1 (g4 p m)
    refine ⟨u, b0, ⟨p, vs, rfl, h, g1⟩, g2, g3, fun b m => List.mem_cons_of_mem _ (g4 b m), fun {Hd' H' t' b'} le ag h' nb inb => ?_⟩
    obtain ⟨cs, c1, c2, c3⟩ := g5 le (fun a m => ag a (List.mem_cons_of_mem _ m)) h' nb fun b m => (inb b m).imp id fun z q => z (List.mem_cons_of_mem _ q)
    rw [set_self g1] at c1
    refine ⟨p :: cs, .ls (ag p List.mem_cons_self pn _ nt_lst h) c1, List.nodup_cons.mpr ⟨fun m => ?_, c2⟩, fun c m => ?_⟩
    · rcases c3 p m with z | z
      · exact n1 z.1
      · rcases inb p z with q | q
        · exact pn q
        · exact q List.mem_cons_self
    · rcases List.mem_cons.mp m with rfl | m
      · exact .inl ⟨List.mem_cons_self, pn⟩
      · exact (c3 c m).imp (fun z => ⟨List.mem_cons_of_mem _ z.1, z.2⟩) id
  | dk h l k n e1 e2 g =>
    rename_i p o lk us kvs vs ts as
    subst e1
    subst e2
    obtain ⟨n1, n2⟩ := List.nodup_cons.mp nd
    obtain ⟨u, b0, g1, g2, g3, g4, g5⟩ := g.upd n2 e
    have pn : p ∉ b0 := fun m => n1 (g4 p m)
    refine ⟨u, b0, ⟨p, o, us, rfl, h, l, k, n, g1⟩, g2, g3, fun b m => List.mem_cons_of_mem _ (g4 b m), fun {Hd' H' t' b'} le ag h' nb inb => ?_⟩
    obtain ⟨cs, c1, c2, c3⟩ := g5 le (fun a m => ag a (List.mem_cons_of_mem _ m)) h' nb fun b m => (inb b m).imp id fun z q => z (List.mem_cons_of_mem _ q)
    rw [set_self g1] at c1
    refine ⟨p :: cs, .dk (ag p List.mem_cons_self pn _ (l.nt nt_dKs) h) l (k.trans (setSnd_fst _ _ _).symm) n rfl (setSnd_snd _ _ _) c1, List.nodup_cons.mpr ⟨fun m => ?_, c2⟩, fun c m => ?_⟩
    · rcases c3 p m with z | z
      · exact n1 z.1
      · rcases inb p z with q | q
        · exact pn q
        · exact q List.mem_cons_self
    · rcases List.mem_cons.mp m with rfl | m
      · exact .inl ⟨List.mem_cons_self, pn⟩
      · exact (c3 c m).imp (fun z => ⟨List.mem_cons_of_mem _ z.1, z.2⟩) id
  | dt h l k n e1 e2 g =>
    rename_i p o lk us kvs vs ts as
    subst e1
    subst e2
    obtain ⟨n1, n2⟩ := List.nodup_cons.mp nd
    obtain ⟨u, b0, g1, g2, g3, g4, g5⟩ := g.upd n2 e
    have pn : p ∉ b0 := fun m => n1 (g4 p m)
    refine ⟨u, b0, True.intro, g2, g3, fun b m => List.mem_cons_of_mem _ (g4 b m), fun {Hd' H' t' b'} le ag h' nb inb => ?_⟩
    obtain ⟨cs, c1, c2, c3⟩ := g5 le (fun a m => ag a (List.mem_cons_of_mem _ m)) h' nb fun b m => (inb b m).imp id fun z q => z (List.mem_cons_of_mem _ q)
    rw [set_self g1] at c1
    refine ⟨p :: cs, .dt (ag p List.mem_cons_self pn _ (l.nt nt_ext) h) l (by rw [setSnd_fst]; exact k.mono le) n rfl (setSnd_snd _ _ _) c1, List.nodup_cons.mpr ⟨fun m => ?_, c2⟩, fun c m => ?_⟩
    · rcases c3 p m with z | z
      · exact n1 z.1
      · rcases inb p z with q | q
        · exact pn q
        · exact q List.mem_cons_self
    · rcases List.mem_cons.mp m with rfl | m
      · exact .inl ⟨List.mem_cons_self, pn⟩
      · exact (c3 c m).imp (fun z => ⟨List.mem_cons_of_mem _ z.1, z.2⟩) id
  | ob h d hc k n e1 e2 g =>
    rename_i p C dx c' fs gs vs ts as
    subst e1
    subst e2
    obtain ⟨n1, n2⟩ := List.nodup_cons.mp nd
    obtain ⟨n3, n4⟩ := List.nodup_cons.mp n2
    obtain ⟨u, b0, g1, g2, g3, g4, g5⟩ := g.upd n4 e
    have pn : p ∉ b0 := fun m => n1 (List.mem_cons_of_mem _ (g4 p m))
    have dn : dx ∉ b0 := fun m => n3 (g4 dx m)
    refine ⟨u, b0, ⟨p, C, dx, fs, rfl, h, k, g1⟩, g2, g3, fun b m => List.mem_cons_of_mem _ (List.mem_cons_of_mem _ (g4 b m)), fun {Hd' H' t' b'} le ag h' nb inb => ?_⟩
    obtain ⟨cs, c1, c2, c3⟩ := g5 le (fun a m => ag a (List.mem_cons_of_mem _ (List.mem_cons_of_mem _ m))) h' nb fun b m => (inb b m).imp id fun z q => z (List.mem_cons_of_mem _ (List.mem_cons_of_mem _ q))
    rw [set_self g1] at c1
    have off : ∀ q, q ∉ as → q ∉ b0 → (q = p ∨ q = dx) → q ∉ cs := fun q qa qb hq m => by
      rcases c3 q m with z | z
      · exact qa z.1
      · rcases inb q z with w | w
        · exact qb w
        · rcases hq with rfl | rfl
          · exact w List.mem_cons_self
          · exact w (List.mem_cons_of_mem _ List.mem_cons_self)
    refine ⟨p :: dx :: cs, .ob (ag p List.mem_cons_self pn _ nt_ins h) (ag dx (List.mem_cons_of_mem _ List.mem_cons_self) dn _ nt_own d) hc (k.trans (setSnd_fst _ _ _).symm) n rfl (setSnd_snd _ _ _) c1, List.nodup_cons.mpr ⟨fun m => ?_, List.nodup_cons.mpr ⟨off dx n3 dn (.inr rfl), c2⟩⟩, fun c m => ?_⟩
    · rcases List.mem_cons.mp m with rfl | m
      · exact n1 List.mem_cons_self
      · exact off p (fun z => n1 (List.mem_cons_of_mem _ z)) pn (.inl rfl) m
    · rcases List.mem_cons.mp m with rfl | m
      · exact .inl ⟨List.mem_cons_self, pn⟩
      · rcases List.mem_cons.mp m with rfl | m
        · exact .inl ⟨List.mem_cons_of_mem _ List.mem_cons_self, dn⟩
        · exact (c3 c m).imp (fun z => ⟨List.mem_cons_of_mem _ (List.mem_cons_of_mem _ z.1), z.2⟩) id
end
/-! ### a slot's value as a tree -/
def asT : Val → Option Tr
  | .own xs => some (.own xs)
  | .tr .own t => some t
  | _ => none
def ofT : Tr → Val
  | .own xs => .own xs
  | t => .tr .own t
def slotT (ρ : Ev) (i : Nat) : Option Tr := match ρ[i]? with
  | some (some y) => asT y
  | _ => none
section
variable {CL : Calls} {Z : Ext} {K : PySem.W.Frag} {ow : List Addr} {Hb H : Hp} {v : V}
theorem SVF.asT {y : Val} {T : Tr} {as : List Addr} (h : SVF CL Z K ow Hb H v y as) (e : asT y = some T) : SVF CL Z K ow Hb H v (.tr .own T) as := by
  cases y with
  | own xs =>
    cases e
    obtain ⟨p, vs, rfl, rfl, h1, h2, h3, h4, h5⟩ := h
    exact ⟨.own h4 h5, by simp, fun a m => by rw [List.mem_singleton.mp m]; exact ⟨h1, h2, h3⟩⟩
  | tr m t =>
    cases m with
    | own => cases e; exact h
    | bor => cases e
    | held => cases e
  | d x => cases e
  | bor x => cases e
  | bag => cases e
  | fn f φ => cases e
theorem SVF.ofT {T : Tr} {as : List Addr} (h : SVF CL Z K ow Hb H v (.tr .own T) as) : SVF CL Z K ow Hb H v (ofT T) as := by
  cases T with
  | own xs =>
    obtain ⟨h1, h2, h3⟩ := h
    cases h1 with
    | own q1 q2 =>
      obtain ⟨z1, z2, z3⟩ := h3 _ List.mem_cons_self
      exact ⟨_, _, rfl, rfl, z1, z2, z3, q1, q2⟩
  | d x => exact h
  | ls ts => exact h
  | dc l lk kvs => exact h
  | ob c fs => exact h
theorem slotT_of {ρ : Ev} {i : Nat} {T : Tr} (h : slotT ρ i = some T) : ∃ y, ρ[i]? = some (some y) ∧ Pd.asT y = some T := by
  unfold slotT at h
  split at h
  · rename_i y e
    exact ⟨y, e, h⟩
  · cases h
end
/-! ### what is owned by no slot -/
/-- .. and ex is owned, by no slot -/
structure RelE (CL : Calls) (Z : Ext) (K : PySem.W.Frag) (ow0 : List Addr) (Hb S : Hp) (ρ : Ev) (σ : L2.St) (H : Hp) (ow ex : List Addr) : Prop where
  r : Rel CL Z K ow0 Hb S ρ σ H ow
  ex_ : ∃ F, Slots CL Z K ow Hb H ρ σ F ∧ ∀ e ∈ ex, New Hb e ∧ e ∈ ow ∧ e ∉ fp Z ∧ ∀ k, e ∉ F k
/-! ### a part of a slot's tree, and the slot with that part otherwise -/
structure Foc (CL : Calls) (Z : Ext) (K : PySem.W.Frag) (ow0 : List Addr) (Hb S : Hp) (ρ : Ev) (σ : L2.St) (H : Hp) (ow ex : List Addr) (i : Nat) (π : List Nat) (t : Tr) (u : V) (b0 : List Addr) : Prop where
  rel : RelE CL Z K ow0 Hb S ρ σ H ow ex
  at_ : TrAt K Z.nst (hid ow H) H u t b0
  nd : b0.Nodup
  in_ : ∀ b ∈ b0, New Hb b ∧ b ∈ ow ∧ b ∉ fp Z ∧ b ∉ ex
  put : ∀ (t' : Tr) (H' : Hp) (ow' b' : List Addr), SameBut (b0 ++ ex ++ fp Z) H H' → Le (hid ow H) (hid ow' H') → Gr Z ow' H' → (∀ a ∈ ow, a ∈ ow') → TrAt K Z.nst (hid ow' H') H' u t' b' → b'.Nodup → (∀ b ∈ b', b ∈ b0 ∨ b ∈ ex ∨ (b ∉ ow ∧ New Hb b ∧ b ∉ fp Z ∧ b ∈ ow')) →
    ∃ T, slotT ρ i = some T ∧ T.sub π = some t ∧ Rel CL Z K ow0 Hb S (ρ.set i (some (ofT (T.putAt π t')))) σ H' ow'
section
variable {CL : Calls} {Z : Ext} {K : PySem.W.Frag} {ow0 ow ex : List Addr} {Hb S S' H H1 : Hp} {ρ : Ev} {σ : L2.St} {i : Nat} {π : List Nat} {t : Tr} {u : V} {b0 : List Addr}
theorem Rel.e0 (r : Rel CL Z K ow0 Hb S ρ σ H ow) : RelE CL Z K ow0 Hb S ρ σ H ow [] := by
  obtain ⟨F, f⟩ := r.own
  exact ⟨r, F, f, fun e m => nomatch m⟩
theorem RelE.step (r : RelE CL Z K ow0 Hb S ρ σ H ow ex) (e : SameBut (fp Z) H H1) (z : RZ Z H1) : RelE CL Z K ow0 Hb S ρ σ H1 ow ex := by
  obtain ⟨F, f, g⟩ := r.ex_
  exact ⟨r.r.step e z, F, f.mono (fun i => e.agree fun a m => (f.in_ i a m).2.2) (hid_mono e r.r.gr.fpo fun a h => .inl h) fun i a m => (f.in_ i a m).2.1, g⟩
theorem RelE.remark (r : RelE CL Z K ow0 Hb S ρ σ H ow ex) (h : Le S' (hid ow H)) : RelE CL Z K ow0 Hb S' ρ σ H ow ex := ⟨r.r.remark h, r.ex_⟩
/-- the slot j is known no more: what it owned is owned by no slot -/
theorem RelE.forget (r : RelE CL Z K ow0 Hb S ρ σ H ow ex) {j : Nat} {y : Val} (hj : ρ[j]? = some (some y)) : ∃ v as, σ[j]? = some (some v) ∧ SVF CL Z K ow Hb H v y as ∧ RelE CL Z K ow0 Hb S (ρ.set j none) σ H ow (as ++ ex) ∧ ∀ a ∈ as, a ∉ ex := by
  obtain ⟨F, f, g⟩ := r.ex_
  obtain ⟨v, h1, h2⟩ := f.at_ j y hj
  have known : ∀ (i : Nat) (z : Val), (ρ.set j none)[i]? = some (some z) → i ≠ j ∧ ρ[i]? = some (some z) := fun i z q => by
    rcases getSet q with ⟨_, e, _⟩ | ⟨n, e⟩
    · cases e
    · exact ⟨n, e⟩
  have sl : Slots CL Z K ow Hb H (ρ.set j none) σ fun i => if i = j then [] else F i := by
    refine ⟨fun i z q => ?_, fun i k a n m1 m2 => ?_, fun i n => ?_⟩
    · obtain ⟨n, q⟩ := known i z q
      rw [if_neg n]
      exact f.at_ i z q
    · by_cases hi : i = j
      · rw [if_pos hi] at m1; cases m1
      · by_cases hk : k = j
        · rw [if_pos hk] at m2; cases m2
        · rw [if_neg hi] at m1
          rw [if_neg hk] at m2
          exact f.dis i k a n m1 m2
    · by_cases hi : i = j
      · rw [if_pos hi]
      · rw [if_neg hi]
        exact f.nil i fun z q => n z (by rw [List.getElem?_set_ne (Ne.symm hi)]; exact q)
  refine ⟨v, F j, h1, h2, ⟨⟨r.r.gr, by rw [List.length_set, r.r.len], r.r.sb, r.r.sub, r.r.mark, r.r.held, _, sl⟩, _, sl, fun e m => ?_⟩, fun a m q => (g a q).2.2.2 j m⟩
  rcases List.mem_append.mp m with m | m
  · refine ⟨(h2.in_ e m).1, (h2.in_ e m).2.1, (h2.in_ e m).2.2, fun k q => ?_⟩
    have q : e ∈ (if k = j then [] else F k) := q
    by_cases hk : k = j
    · rw [if_pos hk] at q; cases q
    · rw [if_neg hk] at q
      exact f.dis j k e (Ne.symm hk) m q
  · refine ⟨(g e m).1, (g e m).2.1, (g e m).2.2.1, fun k q => ?_⟩
    have q : e ∈ (if k = j then [] else F k) := q
    by_cases hk : k = j
    · rw [if_pos hk] at q; cases q
    · rw [if_neg hk] at q
      exact (g e m).2.2.2 k q
theorem RelE.foc {T : Tr} (r : RelE CL Z K ow0 Hb S ρ σ H ow ex) (hs : slotT ρ i = some T) : ∃ v b0, σ[i]? = some (some v) ∧ Foc CL Z K ow0 Hb S ρ σ H ow ex i [] T v b0 := by
  obtain ⟨F, f, g⟩ := r.ex_
  obtain ⟨y0, hi, hT⟩ := slotT_of hs
  obtain ⟨v, h1, h0⟩ := f.at_ i _ hi
  obtain ⟨h2, h3, h4⟩ := h0.asT hT
  have hl : i < ρ.length := (List.getElem?_eq_some_iff.mp hi).1
  refine ⟨v, F i, h1, r, h2, h3, fun b m => ⟨(h4 b m).1, (h4 b m).2.1, (h4 b m).2.2, fun q => (g b q).2.2.2 i m⟩, fun t' H' ow' b' e le gr sub h' nb inb => ⟨T, hs, rfl, gr, by rw [List.length_set, r.r.len], fun a o n q1 q2 => ?_, fun a m => sub a (r.r.sub a m), r.r.mark.trans le, r.r.held, fun j => if j = i then b' else F j, fun j y q => ?_, fun j k a n m1 m2 => ?_, fun j n => ?_⟩⟩
  · refine e a o (fun m => ?_) q1 (r.r.sb a o n q1 q2)
    rcases List.mem_append.mp m with m | m
    · rcases List.mem_append.mp m with m | m
      · exact (h4 a m).1 o q1 q2
      · exact (g a m).1 o q1 q2
    · exact n m
  · rcases getSet q with ⟨rfl, z, _⟩ | ⟨n, z⟩
    · cases z
      rw [if_pos rfl]
      refine ⟨v, h1, SVF.ofT ⟨h', nb, fun b m => (inb b m).elim (fun q => ⟨(h4 b q).1, sub b (h4 b q).2.1, (h4 b q).2.2⟩) fun q => q.elim (fun q => ⟨(g b q).1, sub b (g b q).2.1, (g b q).2.2.1⟩) fun q => ⟨q.2.1, q.2.2.2, q.2.2.1⟩⟩⟩
    · obtain ⟨w, w1, w2⟩ := f.at_ j y z
      rw [if_neg n]
      refine ⟨w, w1, w2.mono (fun a m o q1 q2 => e a o (fun z => ?_) q1 q2) le fun a m => sub a (w2.in_ a m).2.1⟩
      rcases List.mem_append.mp z with z | z
      · rcases List.mem_append.mp z with z | z
        · exact f.dis j i a n m z
        · exact (g a z).2.2.2 j m
      · exact (w2.in_ a m).2.2 z
  · have off : ∀ k, k ≠ i → ∀ a ∈ b', a ∉ F k := fun k n a m q => (inb a m).elim (fun z => f.dis k i a n q z) fun z => z.elim (fun z => (g a z).2.2.2 k q) fun z => z.1 (f.in_ k a q).2.1
    by_cases hj : j = i
    · rw [if_pos hj] at m1
      rw [if_neg fun e => n (hj.trans e.symm)] at m2
      exact off k (fun e => n (hj.trans e.symm)) a m1 m2
    · rw [if_neg hj] at m1
      by_cases hk : k = i
      · rw [if_pos hk] at m2
        exact off j hj a m2 m1
      · rw [if_neg hk] at m2
        exact f.dis j k a n m1 m2
  · by_cases hj : j = i
    · subst hj
      exact absurd (List.getElem?_set_self hl) (n _)
    · rw [if_neg hj]
      exact f.nil j fun z q => n z (by rw [List.getElem?_set_ne (Ne.symm hj)]; exact q)
theorem Foc.step (f : Foc CL Z K ow0 Hb S ρ σ H ow ex i π t u b0) (e : SameBut (fp Z) H H1) (z : RZ Z H1) : Foc CL Z K ow0 Hb S ρ σ H1 ow ex i π t u b0 :=
  ⟨f.rel.step e z, f.at_.mono (hid_mono e f.rel.r.gr.fpo fun _ m => .inl m) (e.agree fun a m => (f.in_ a m).2.2.1), f.nd, f.in_, fun t' H' ow' b' e' le gr sub h' nb inb =>
    f.put t' H' ow' b' (fun a o n q1 q2 => e' a o n q1 (e a o (fun m => n (List.mem_append_right _ m)) q1 q2)) ((hid_mono e f.rel.r.gr.fpo fun _ m => .inl m).trans le) gr sub h' nb inb⟩
theorem Foc.kid {c : Tr} {j : Nat} (f : Foc CL Z K ow0 Hb S ρ σ H ow ex i π t u b0) (e : t.kids[j]? = some c) : ∃ u' b1, HKid H u j u' t ∧ Foc CL Z K ow0 Hb S ρ σ H ow ex i (π ++ [j]) c u' b1 := by
  obtain ⟨u', b1, k1, k2, k3, k4, k5⟩ := f.at_.kid f.nd e
  refine ⟨u', b1, k1, f.rel, k2, k3, fun b m => f.in_ b (k4 b m), fun t' H' ow' b' e' le gr sub h' nb inb => ?_⟩
  obtain ⟨F, fs, g⟩ := f.rel.ex_
  obtain ⟨cs, c1, c2, c3⟩ := k5 le (fun a m n o q1 q2 => e' a o (fun z => (List.mem_append.mp z).elim (fun z => (List.mem_append.mp z).elim n (f.in_ a m).2.2.2) (f.in_ a m).2.2.1) q1 q2) h' nb fun b m => (inb b m).imp id fun z q => z.elim (f.in_ b q).2.2.2 fun z => z.1 (f.in_ b q).2.1
  obtain ⟨T, t1, t2, t3⟩ := f.put (t.setKid j t') H' ow' cs (fun a o n q1 q2 => e' a o (fun z => n ((List.mem_append.mp z).elim (fun q => List.mem_append_left _ ((List.mem_append.mp q).elim (fun q => List.mem_append_left _ (k4 a q)) (List.mem_append_right _))) (List.mem_append_right _))) q1 q2) le gr sub c1 c2 fun b m => (c3 b m).elim (fun z => .inl z.1) fun z => (inb b z).elim (fun q => .inl (k4 b q)) .inr
  exact ⟨T, t1, Tr.sub_snoc e t2, by rw [Tr.putAt_snoc e t2]; exact t3⟩
end
end Pd

/-! Pd42: trees read: parts of what is told; dicts, lists of trees: subscripts, in, len. -/
namespace Pd
open PySem PySem.Spec PyProof.Rows L2
/-- a part of a tree, as a value -/
def kidV : Md → Tr → Option Val
  | _, .d x => some (.d x)
  | .own, .own xs => some (.d (.list xs))
  | .own, _ => none
  | .bor, .own xs => some (.bor xs)
  | m, t => some (.tr m t)
def kidK (m : Md) (t : Tr) (P : Val → Prop) : Prop := match kidV m t with
  | some y => P y
  | none => False
theorem kidK_of {m : Md} {t : Tr} {P : Val → Prop} (h : kidK m t P) : ∃ y, kidV m t = some y ∧ P y := by
  unfold kidK at h
  split at h
  · rename_i y e; exact ⟨y, e, h⟩
  · exact h.elim
section
variable {K : PySem.W.Frag} {ns : Nst} {Hd H : Hp}
theorem TrAll.get : ∀ {vs : List V} {ts : List Tr} {as : List Addr} {i : Nat} {t : Tr}, TrAll K ns Hd H vs ts as → ts[i]? = some t → ∃ v bs, vs[i]? = some v ∧ TrAt K ns Hd H v t bs ∧ (∀ b ∈ bs, b ∈ as) ∧ (as.Nodup → bs.Nodup)
  | _, _, _, _, _, .nil, e => by cases e
  | _, _, _, 0, _, .cons h r, e => by cases e; exact ⟨_, _, rfl, h, fun b m => List.mem_append_left _ m, fun n => (List.nodup_append.mp n).1⟩
  | _, _, _, i + 1, _, .cons h r, e => by
    obtain ⟨v, bs, h1, h2, h3, h4⟩ := TrAll.get (i := i) r (by simpa using e)
    exact ⟨v, bs, by simpa using h1, h2, fun b m => List.mem_append_right _ (h3 b m), fun n => h4 (List.nodup_append.mp n).2.1⟩
theorem TrAt.part {v : V} {t c : Tr} {j : Nat} {as : List Addr} (h : TrAt K ns Hd H v t as) (e : t.kids[j]? = some c) : ∃ u bs, HKid H v j u t ∧ TrAt K ns Hd H u c bs ∧ (∀ b ∈ bs, b ∈ as) ∧ (as.Nodup → bs.Nodup) := by
  cases h with
  | d h => cases e
  | own h g => cases e
  | ls h g =>
    obtain ⟨u, bs, g1, g2, g3, g4⟩ := g.get e
    exact ⟨u, bs, ⟨_, _, rfl, h, g1⟩, g2, fun b m => List.mem_cons_of_mem _ (g3 b m), fun n => g4 (List.nodup_cons.mp n).2⟩
  | dk h l k n e1 e2 g =>
    subst e1
    subst e2
    obtain ⟨u, bs, g1, g2, g3, g4⟩ := g.get e
    exact ⟨u, bs, ⟨_, _, _, rfl, h, l, k, n, g1⟩, g2, fun b m => List.mem_cons_of_mem _ (g3 b m), fun n => g4 (List.nodup_cons.mp n).2⟩
  | dt h l k n e1 e2 g =>
    subst e1
    subst e2
    obtain ⟨u, bs, g1, g2, g3, g4⟩ := g.get e
    exact ⟨u, bs, True.intro, g2, fun b m => List.mem_cons_of_mem _ (g3 b m), fun n => g4 (List.nodup_cons.mp n).2⟩
  | ob h d hc k n e1 e2 g =>
    subst e1
    subst e2
    obtain ⟨u, bs, g1, g2, g3, g4⟩ := g.get e
    exact ⟨u, bs, ⟨_, _, _, _, rfl, h, k, g1⟩, g2, fun b m => List.mem_cons_of_mem _ (List.mem_cons_of_mem _ (g3 b m)), fun n => g4 (List.nodup_cons.mp (List.nodup_cons.mp n).2).2⟩
theorem HKid.mono {H H' : Hp} {v u : V} {j : Nat} {t : Tr} (h : HKid H v j u t) (ag : ∀ p, v = .ref p → ∀ o, NT o → H p = some o → H' p = some o) : HKid H' v j u t := by
  cases t with
  | d x => exact h
  | own xs => exact h
  | ls ts =>
    obtain ⟨p, vs, rfl, h1, h2⟩ := h
    exact ⟨p, vs, rfl, ag p rfl _ nt_lst h1, h2⟩
  | dc l lk kvs =>
    cases l with
    | k =>
      obtain ⟨p, o, us, rfl, h1, h2, h3⟩ := h
      exact ⟨p, o, us, rfl, ag p rfl _ (h2.nt nt_dKs) h1, h2, h3⟩
    | t => exact h
  | ob c gs =>
    obtain ⟨p, C, dx, fs, rfl, h1, h2⟩ := h
    exact ⟨p, C, dx, fs, rfl, ag p rfl _ nt_ins h1, h2⟩
end
section
variable {CL : Calls} {Z : Ext} {K : PySem.W.Frag} {ow : List Addr} {H0 H : Hp} {v : V}
theorem TrAt.root {ns : Nst} {Hd H : Hp} {p : Addr} {t : Tr} {as : List Addr} (h : TrAt K ns Hd H (.ref p) t as) (n : ∀ x, t ≠ .d x) : p ∈ as := by
  cases h with
  | d h => exact absurd rfl (n _)
  | own => exact List.mem_cons_self
  | ls => exact List.mem_cons_self
  | dk => exact List.mem_cons_self
  | dt => exact List.mem_cons_self
  | ob => exact List.mem_cons_self
theorem kids_nd {t c : Tr} {j : Nat} (e : t.kids[j]? = some c) : ∀ x, t ≠ .d x := fun x z => by subst z; cases e
theorem RV.kid {m : Md} {t c : Tr} {j : Nat} (h : RV CL Z K ow H0 H v (.tr m t)) (e : t.kids[j]? = some c) : ∃ u, HKid H v j u t ∧ ∀ y, kidV m c = some y → RV CL Z K ow H H u y := by
  cases m with
  | own =>
    obtain ⟨as, h1, h2, h3⟩ := h
    obtain ⟨u, bs, g1, g2, g3, g4⟩ := h1.part e
    refine ⟨u, g1, fun y ey => ?_⟩
    cases c with
    | d x =>
      cases ey
      cases g2 with
      | d g2 => exact Dt.mono (hid_less fun a m => List.mem_append_right _ m) g2
    | own xs =>
      cases ey
      cases g2 with
      | own q1 q2 => exact .lst (hid_of (h3 _ (g3 _ List.mem_cons_self)).2 q1 nt_lst) (DtAll.mono (hid_less fun a m => List.mem_append_right _ m) q2)
    | ls ts => cases ey
    | dc l lk kvs => cases ey
    | ob n fs => cases ey
  | bor =>
    obtain ⟨as, h1, h2⟩ := h
    obtain ⟨u, bs, g1, g2, g3, g4⟩ := h1.part e
    refine ⟨u, g1, fun y ey => ?_⟩
    have all : ∀ t, c = t → RV CL Z K ow H H u (.tr .bor t) := fun t z => by
      subst z
      exact ⟨bs, g2, fun a m => h2 a (g3 a m)⟩
    cases c with
    | d x =>
      cases ey
      cases g2 with
      | d g2 => exact g2
    | own xs =>
      cases ey
      cases g2 with
      | own q1 q2 => exact ⟨_, _, rfl, (h2 _ (g3 _ List.mem_cons_self)).1, (h2 _ (g3 _ List.mem_cons_self)).2, q1, q2⟩
    | ls ts => cases ey; exact all _ rfl
    | dc l lk kvs => cases ey; exact all _ rfl
    | ob n fs => cases ey; exact all _ rfl
  | held =>
    obtain ⟨as, h1, h2⟩ := h
    obtain ⟨u, bs, g1, g2, g3, g4⟩ := h1.part e
    refine ⟨u, g1.mono (fun p ep o n q => ?_), ?_⟩
    · subst ep
      exact ((h2 p (h1.root (kids_nd e))).2 o q).2
    intro y ey
    have all : ∀ t, c = t → RV CL Z K ow H H u (.tr .held t) := fun t z => by
      subst z
      exact ⟨bs, g2, fun a m => h2 a (g3 a m)⟩
    cases c with
    | d x =>
      cases ey
      cases g2 with
      | d g2 => exact g2
    | own xs => cases ey; exact all _ rfl
    | ls ts => cases ey; exact all _ rfl
    | dc l lk kvs => cases ey; exact all _ rfl
    | ob n fs => cases ey; exact all _ rfl
end
/-! ### dicts with whole numbers and texts as keys -/
def isKey : D → Bool
  | .int _ => true
  | .str _ => true
  | _ => false
theorem isKey_of {K : PySem.W.Frag} {H : Hp} {v : V} {d : D} (h : isKey d = true) (hd : Dt K H v d) : ∃ k : L2.Key, v = kV k ∧ d = keyD k := by
  cases hd with
  | int i => exact ⟨.inl i, rfl, rfl⟩
  | str x => exact ⟨.inr x, rfl, rfl⟩
  | _ => cases h
theorem find_idx {α : Type} (p : α → Bool) : ∀ l : List α, l.find? p = (l.findIdx? p).bind fun j => l[j]?
  | [] => rfl
  | a :: l => by
    rw [List.find?_cons, List.findIdx?_cons]
    cases e : p a with
    | true => rfl
    | false =>
      rw [find_idx p l]
      show _ = (Option.map (· + 1) (l.findIdx? p)).bind _
      cases l.findIdx? p <;> rfl
theorem kIx_us {us : List (L2.Key × V)} {kvs : List (D × Tr)} (h : us.map (fun e => keyD e.1) = kvs.map (·.1)) (k : L2.Key) : kIx kvs (keyD k) = us.findIdx? fun e => decide (e.1 = k) := by
  have e1 : kIx kvs (keyD k) = (kvs.map (·.1)).findIdx? fun x => PyData.eqv x (keyD k) := by
    unfold kIx
    rw [List.findIdx?_map]
    rfl
  rw [e1, ← h, List.findIdx?_map]
  refine congrArg (fun p => us.findIdx? p) (funext fun e => ?_)
  exact eqv_key e.1 k
theorem dget_ix (kvs : List (D × Tr)) (k : D) : dget kvs k = (kIx kvs k).bind fun j => (kvs.map (·.2))[j]? := by
  unfold dget kIx
  rw [find_idx]
  cases kvs.findIdx? fun e => PyData.eqv e.1 k with
  | none => rfl
  | some j => rw [Option.bind_some, Option.bind_some, List.getElem?_map]
theorem valV_ix (us : List (L2.Key × V)) (k : L2.Key) : valV us k = (us.findIdx? fun e => decide (e.1 = k)).bind fun j => (us.map (·.2))[j]? := by
  unfold valV
  rw [find_idx]
  cases us.findIdx? fun e => decide (e.1 = k) with
  | none => rfl
  | some j => rw [Option.bind_some, Option.bind_some, List.getElem?_map]
theorem lkd_rd {lk : Bool} {u o : HO} {H : Hp} {p : Addr} (h : H p = some o) (l : Lkd lk u o) : Rd H p u := by
  cases lk with
  | false => cases l; exact .inl h
  | true => obtain ⟨od, rfl⟩ := l; exact .inr ⟨od, h⟩
section
variable {CL : Calls} {Z : Ext} {K : PySem.W.Frag} {ow : List Addr} {H0 H : Hp} {v y : V} {m : Md} {lk : Bool} {kvs : List (D × Tr)} {d : D}
theorem RV.dget {c : Tr} (h : RV CL Z K ow H0 H v (.tr m (.dc .k lk kvs))) (hd : Dt K H y d) (hk : isKey d = true) (e : dget kvs d = some c) : ∃ p u, v = .ref p ∧ DGet H p y (some u) ∧ ∀ w, kidV m c = some w → RV CL Z K ow H H u w := by
  rw [dget_ix] at e
  obtain ⟨j, e1, e2⟩ := Option.bind_eq_some_iff.mp e
  obtain ⟨k, rfl, rfl⟩ := isKey_of hk hd
  obtain ⟨u, ⟨p, o, us, rfl, h1, h2, h3, h4, h5⟩, h6⟩ := h.kid (c := c) (j := j) e2
  refine ⟨p, u, rfl, .inl ⟨us, k, lkd_rd h1 h2, rfl, ?_⟩, h6⟩
  rw [valV_ix, ← kIx_us h3, e1]
  exact h5.symm
theorem RV.dno (h : RV CL Z K ow H0 H v (.tr m (.dc .k lk kvs))) (hd : Dt K H y d) (hk : isKey d = true) (e : Pd.dget kvs d = none) : ∃ p, v = .ref p ∧ DGet H p y none := by
  obtain ⟨k, rfl, rfl⟩ := isKey_of hk hd
  obtain ⟨as, h⟩ := h.tree
  cases h with
  | dk h1 h2 h3 h4 e1 e2 h5 =>
    rename_i p o us vs ts as
    subst e1
    subst e2
    refine ⟨p, rfl, .inl ⟨us, k, lkd_rd h1 h2, rfl, ?_⟩⟩
    rw [valV_ix, ← kIx_us h3]
    rw [dget_ix] at e
    cases q : kIx kvs (keyD k) with
    | none => rfl
    | some j =>
      rw [q] at e
      have e : (kvs.map (·.2))[j]? = none := e
      have hl := h5.len
      show none = (us.map (·.2))[j]?
      rw [List.getElem?_eq_none_iff] at e
      exact (List.getElem?_eq_none (by rw [hl]; exact e)).symm
end
section
variable {X : Cx} {W : WX} {Z : Ext} {CL : Calls} {ow0 : List Addr} {Hb : Hp}
/-- d[k], ts[i], of a tree -/
def opIxT : Op2 := fun a b P => match a with
  | .tr m (.dc .k _ kvs) => match b.rd with
    | some d => isKey d = true ∧ match dget kvs d with
      | some c => kidK m c P
      | none => False
    | none => False
  | .tr m (.ls ts) => match b.rd with
    | some (.int i) => match atI ts i with
      | some c => kidK m c P
      | none => False
    | _ => False
  | _ => opIx a b P
theorem ixr_dict {x y : V} {u v : Value} {pins : List (Addr × Obj)} {σ : L2.St} {H : Hp} {s : Shared} {value slice : Expr} {Q : VK} {a : Addr} {z : V} (hu : X.A.units + 1 < cLine) (I : Inv X pins σ H s) (rx : RelV x v) (ry : RelV y u) (ex : x = .ref a) (g : DGet H a y (some z)) (q : Q z H)
    (hs : subscripted slice false v u = operate [v, u] (getItem v u)) : wpAny (model X.prog X.w) X.A (subscriptTail value slice v u) (EP X pins σ Q) X.xe s := by
  subst ex
  obtain rfl : v = Value.ref a := rx
  have hT := dict_typeIs I g
  unfold subscriptTail
  refine wpAny_bind ?_
  rw [getitemInPython_of_ne hT.not_modules]
  refine wpAny_bind (wpAny_specialOf hT PySem.F.slot_dict_getitem.lookup ?_)
  have fin : wpAny (model X.prog X.w) X.A (subscripted slice false (.ref a) u) (fun r s₃ => wpAny (model X.prog X.w) X.A (letTemporaryGo value (.ref a) r >>= fun _ => pure r) (EP X pins σ Q) X.xe s₃) X.xe s := by
    rw [hs]
    refine wpAny_operating (d_getItem hu I g ry fun w' s3 I3 rw' => ?_)
    exact wpAny_bind (wpAny_letTemporaryGo (wpAny_pure ⟨z, H, I3, rw', q⟩))
  first
    | exact wpAny_pure (wpAny_bind fin)
    | exact wpAny_bind (wpAny_pure (wpAny_bind fin))
    | exact wpAny_bind fin
theorem atI_kids {ts : List Tr} {i : Int} {c : Tr} (e : atI ts i = some c) : ∃ j, ixN ts.length i = some j ∧ ts[j]? = some c := by
  unfold L2.atI at e
  cases q : ixN ts.length i with
  | none => rw [q] at e; cases e
  | some j => rw [q] at e; exact ⟨j, rfl, e⟩
theorem ir_ixT (hu : X.A.units + 1 < cLine) : IxR X (rD CL Z X.K opIxT) := by
  intro value slice pins s σ H x y v u Q I rx ry h hs
  obtain ⟨ow, H0, a, b, P, gr, ha, hb, w, g⟩ := h
  unfold opIxT at w
  split at w
  · rename_i m lk kvs
    split at w
    · rename_i d ed
      obtain ⟨hk, w⟩ := w
      split at w
      · rename_i c ec
        obtain ⟨p, z, ex, g1, g2⟩ := ha.dget (hb.rd ed) hk ec
        obtain ⟨yy, ey, w⟩ := kidK_of w
        exact ixr_dict hu I rx ry ex g1 (g _ _ H w (.refl _ _) gr.ext (g2 yy ey)) hs
      · exact w.elim
    · exact w.elim
  · rename_i m ts
    split at w
    · rename_i i ei
      split at w
      · rename_i c ec
        obtain ⟨j, e1, e2⟩ := atI_kids ec
        obtain ⟨z, ⟨p, vs, rfl, h1, h2⟩, h3⟩ := ha.kid (c := c) (j := j) e2
        obtain ⟨as, ht⟩ := ha.tree
        have hl : vs.length = ts.length := by
          cases ht with
          | ls q1 q2 =>
            rw [h1] at q1
            cases q1
            exact q2.len
        rw [hb.int ei] at ry
        obtain ⟨yy, ey, w⟩ := kidK_of w
        exact ix_list value slice pins s σ H _ _ v u Q I rx ry ⟨p, vs, i, z, rfl, rfl, .inl (.of h1), by unfold L2.atI; rw [hl, e1]; exact h2, g _ _ H w (.refl _ _) gr.ext (h3 yy ey)⟩ hs
      · exact w.elim
    · exact w.elim
  · exact ir_ix value slice pins s σ H x y v u Q I rx ry ⟨ow, H0, a, b, P, gr, ha, hb, w, g⟩ hs
theorem sim_ixT {ea eb : Expr} {wa wb : WE} {pos : Pos} (hu : X.A.units + 1 < cLine) (ha : SimE X W Z CL ow0 Hb ea wa) (hb : SimE X W Z CL ow0 Hb eb wb) (hs : PlainIx eb := by intro _ _; rfl) : SimE X W Z CL ow0 Hb (.Subscript ea eb pos) (wOp opIxT wa wb) := by
  intro S ρ σ H ow P Ex Q r w g b
  refine PEat.of (pe_ix (ir_ixT (Z := Z) (CL := CL) hu) PEat.pe PEat.pe hs) ?_
  exact two ha hb r b w fun x y v u H' q e z h1 h2 => ⟨ow, H, x, y, P, r.gr.step e z, h1, h2, q, g.step e r.gr.fpo⟩
/-- k in d -/
def opInT (neg : Bool) : Op2 := fun a b P => match b with
  | .tr _ (.dc .k _ kvs) => match a.rd with
    | some d => isKey d = true ∧ P (.d (.bool (neg ^^ (dget kvs d).isSome)))
    | none => False
  | _ => (if neg = true then opNin else opIn) a b P
theorem or_inT (hu : X.A.units + 200 < cLine) : OpR X (compareOp .In) (rD CL Z X.K (opInT false)) := by
  intro pins s σ H x y v u Q I rx ry h
  obtain ⟨ow, H0, a, b, P, gr, ha, hb, w, gd⟩ := h
  unfold opInT at w
  split at w
  · rename_i m lk kvs
    split at w
    · rename_i d ed
      obtain ⟨hk, w⟩ := w
      rw [Bool.false_xor] at w
      cases e : dget kvs d with
      | none =>
        rw [e] at w
        obtain ⟨p, rfl, g1⟩ := hb.dno (ha.rd ed) hk e
        cases ry
        exact d_in (by omega) I g1 rx fun s' I' => ⟨.bl false, H, I', rfl, gd.sc w gr.ext fun _ => .bl _⟩
      | some c =>
        rw [e] at w
        obtain ⟨p, z, rfl, g1, _⟩ := hb.dget (ha.rd ed) hk e
        cases ry
        exact d_in (by omega) I g1 rx fun s' I' => ⟨.bl true, H, I', rfl, gd.sc w gr.ext fun _ => .bl _⟩
    · exact w.elim
  · exact or_in hu pins s σ H x y v u Q I rx ry ⟨ow, H0, a, b, P, gr, ha, hb, w, gd⟩
theorem or_ninT (hu : X.A.units + 200 < cLine) : OpR X (compareOp .NotIn) (rD CL Z X.K (opInT true)) := by
  intro pins s σ H x y v u Q I rx ry h
  obtain ⟨ow, H0, a, b, P, gr, ha, hb, w, gd⟩ := h
  unfold opInT at w
  split at w
  · rename_i m lk kvs
    split at w
    · rename_i d ed
      obtain ⟨hk, w⟩ := w
      rw [Bool.true_xor] at w
      cases e : dget kvs d with
      | none =>
        rw [e] at w
        obtain ⟨p, rfl, g1⟩ := hb.dno (ha.rd ed) hk e
        cases ry
        exact d_notIn (by omega) I g1 rx fun s' I' => ⟨.bl true, H, I', rfl, gd.sc w gr.ext fun _ => .bl _⟩
      | some c =>
        rw [e] at w
        obtain ⟨p, z, rfl, g1, _⟩ := hb.dget (ha.rd ed) hk e
        cases ry
        exact d_notIn (by omega) I g1 rx fun s' I' => ⟨.bl false, H, I', rfl, gd.sc w gr.ext fun _ => .bl _⟩
    · exact w.elim
  · exact or_nin hu pins s σ H x y v u Q I rx ry ⟨ow, H0, a, b, P, gr, ha, hb, w, gd⟩
/-- len of a tree -/
def bLenT : OpN := fun ys P => match ys with
  | [.tr _ (.dc .k _ kvs)] => P (.d (.int kvs.length))
  | [.tr _ (.ls ts)] => P (.d (.int ts.length))
  | ys => bLen ys P
theorem cd_lenT : CallR X (.builtin "len") (rC CL Z X.K bLenT) := by
  intro pins s σ H vs us Q I rv h
  obtain ⟨ow, H0, ys, P, gr, hs, w, g⟩ := h
  unfold bLenT at w
  split at w
  · rename_i m lk kvs
    cases hs with
    | cons h1 h2 =>
      cases h2
      obtain ⟨as, ht⟩ := h1.tree
      cases ht with
      | dk q1 q2 q3 q4 e1 e2 q5 =>
        rename_i p o us' vs ts as
        obtain ⟨u, rfl, ru⟩ := vals1 rv
        cases ru
        have hl : us'.length = kvs.length := by simpa using congrArg List.length q3
        exact d_len I (lkd_rd q1 q2) fun t s' I' => ⟨.int us'.length, H, I', ⟨t, rfl⟩, by rw [hl]; exact g.sc w gr.ext fun _ => .int _⟩
  · rename_i m ts
    cases hs with
    | cons h1 h2 =>
      cases h2
      obtain ⟨as, ht⟩ := h1.tree
      cases ht with
      | ls q1 q2 => exact call_len pins s σ H _ us Q I rv ⟨_, ts.length, rfl, .inl ⟨_, .inl (.of q1), q2.len.symm⟩, g.sc w gr.ext fun _ => .int _⟩
  · exact cd_len pins s σ H vs us Q I rv ⟨ow, H0, ys, P, gr, hs, w, g⟩
end
end Pd

/-! Pd43: trees made and changed: new dicts, d[k] = v at a place within a slot's tree. -/
namespace Pd
open PySem PySem.Spec PyProof.Rows L2
section
variable {X : Cx} {W : WX} {Z : Ext} {CL : Calls} {ow0 : List Addr} {Hb : Hp}
/-! ### {} -/
def wDNew (l : Lay) : WE := fun _ P _ => P (.tr .own (.dc l false []))
theorem Gd.new {K : PySem.W.Frag} {ow : List Addr} {H0 : Hp} {P : Val → Prop} {Q : VK} {p : Addr} {o : HO} {t : Tr} (g : Gd CL Z K ow H0 P Q) (gr : Gr Z ow H0) (n : H0 p = none) (no : NT o) (w : P (.tr .own t)) (h : ∀ Hd, TrAt K Z.nst Hd (upd H0 p o) (.ref p) t [p]) : Q (.ref p) (upd H0 p o) :=
  g _ _ _ w (.new n) (gr.ext.le (Le.new n)) ⟨[p], h _, by simp, fun a m => by rw [List.mem_singleton.mp m]; exact ⟨.of n, gr.no (.of n)⟩⟩
theorem sim_dnewK {pos : Pos} : SimE X W Z CL ow0 Hb (.Dict [] [] pos) (wDNew .k) := fun S ρ σ H ow P Ex Q r w g b =>
  PEat.of pe_dnewK fun p hp => g.new r.gr hp nt_dKs w fun Hd => .dk upd_same rfl rfl .nil rfl rfl .nil
/-! ### places -/
abbrev WPt := Ev → (List Nat → Tr → Prop) → (Xn → Prop) → Prop
def SimP (X : Cx) (W : WX) (Z : Ext) (CL : Calls) (ow0 : List Addr) (Hb : Hp) (i : Nat) (e : Expr) (w : WPt) : Prop := ∀ (S : Hp) (ρ : Ev) (σ : L2.St) (H : Hp) (ow ex : List Addr) (P : List Nat → Tr → Prop) (Ex : Xn → Prop) (Q : VK),
  RelE CL Z X.K ow0 Hb S ρ σ H ow ex → w ρ P Ex → (∀ π t u b0 H', P π t → SameBut (fp Z) H H' → Foc CL Z X.K ow0 Hb S ρ σ H' ow ex i π t u b0 → Q u H') → Bd Z X.K ow X.mg W σ H Ex → PEat X e σ H Q
def wpRoot (i : Nat) : WPt := fun ρ P _ => match slotT ρ i with
  | some T => P [] T
  | none => False
theorem sim_proot (i : Nat) {x : Str} {pos : Pos} (hN : X.N[i]? = some x := by rfl) (hv : Vis X.env.scope x := by first | exact Or.inl rfl | exact Or.inr (Or.inl rfl) | exact Or.inr (Or.inr rfl)) (hd : (x == ("__debug__" : Str)) = false := by decide)
    (hcd : (x == ("__classdict__" : Str)) = false := by decide) : SimP X W Z CL ow0 Hb i (.Name x pos) (wpRoot i) := by
  intro S ρ σ H ow ex P Ex Q r w g b
  unfold wpRoot at w
  split at w
  · rename_i T hi
    obtain ⟨v, b0, h1, f⟩ := r.foc hi
    exact PEat.of (pe_var hN hv hd hcd) ⟨v, h1, g [] T v b0 H w (.refl _ _) f⟩
  · exact w.elim
def rSub (K : PySem.W.Frag) : R2 := fun x y H Q => (∃ p z, x = .ref p ∧ DGet H p y (some z) ∧ Q z H) ∨ ∃ p xs i v, x = .ref p ∧ y = .int i ∧ SqL K H p xs ∧ L2.atI xs i = some v ∧ Q v H
theorem ixr_sub (hu : X.A.units + 1 < cLine) : IxR X (rSub X.K) := by
  intro value slice pins s σ H x y v u Q I rx ry h hs
  rcases h with ⟨p, z, ex, g, q⟩ | h
  · exact ixr_dict hu I rx ry ex g q hs
  · exact ix_list value slice pins s σ H x y v u Q I rx ry h hs
/-- P[k], P[i] -/
def wpSub (wp : WPt) (wk : WE) : WPt := fun ρ P Ex => wp ρ (fun π t => wk ρ (fun y => match t, y.rd with
  | .dc .k lk kvs, some d => isKey d = true ∧ match kIx kvs d with
    | some j => match (kvs.map (·.2))[j]? with
      | some c => P (π ++ [j]) c
      | none => False
    | none => False
  | .ls ts, some (.int i) => match ixN ts.length i with
    | some j => match ts[j]? with
      | some c => P (π ++ [j]) c
      | none => False
    | none => False
  | _, _ => False) Ex) Ex
theorem sim_psub {i : Nat} {ea eb : Expr} {wp : WPt} {wk : WE} {pos : Pos} (hu : X.A.units + 1 < cLine) (hp : SimP X W Z CL ow0 Hb i ea wp) (hk : SimE X W Z CL ow0 Hb eb wk) (hs : PlainIx eb := by intro _ _; rfl) : SimP X W Z CL ow0 Hb i (.Subscript ea eb pos) (wpSub wp wk) := by
  intro S ρ σ H ow ex P Ex Q r w g b
  refine PEat.of (pe_ix (ixr_sub hu) PEat.pe PEat.pe hs) ?_
  refine hp S ρ σ H ow ex _ Ex _ r w (fun π t u b0 H1 w1 e1 f1 => ?_) b
  refine hk S ρ σ H1 ow _ Ex _ f1.rel.r w1 (fun y v H2 w2 e2 z2 h2 => ?_) (b.step e1)
  have f2 := f1.step e2 z2
  split at w2
  · rename_i lk kvs d ed
    obtain ⟨ik, w2⟩ := w2
    split at w2
    · rename_i j ej
      split at w2
      · rename_i c ec
        obtain ⟨z, b1, ⟨p, o, us, rfl, h3, h4, h5, h6, h7⟩, f3⟩ := f2.kid (c := c) (j := j) ec
        obtain ⟨k, rfl, rfl⟩ := isKey_of ik (h2.rd ed)
        refine .inl ⟨p, z, rfl, .inl ⟨us, k, lkd_rd h3 h4, rfl, ?_⟩, g _ _ _ _ H2 w2 (e1.trans e2) f3⟩
        rw [valV_ix, ← kIx_us h5, ej]
        exact h7.symm
      · exact w2.elim
    · exact w2.elim
  · rename_i ts i ei
    split at w2
    · rename_i j ej
      split at w2
      · rename_i c ec
        obtain ⟨z, b1, ⟨p, vs, rfl, h3, h4⟩, f3⟩ := f2.kid (c := c) (j := j) ec
        have hl : vs.length = ts.length := by
          have ht := f2.at_
          cases ht with
          | ls q1 q2 =>
            rw [h3] at q1
            cases q1
            exact q2.len
        rw [h2.int ei]
        exact .inr ⟨p, vs, i, z, rfl, rfl, .inl (.of h3), by unfold L2.atI; rw [hl, ej]; exact h4, g _ _ _ _ H2 w2 (e1.trans e2) f3⟩
      · exact w2.elim
    · exact w2.elim
  · exact w2.elim
end
/-! ### a dict written -/
theorem putK_set {k : L2.Key} {v : V} : ∀ {us : List (L2.Key × V)} {j : Nat}, (us.map (·.1)).Nodup → (us.findIdx? fun e => decide (e.1 = k)) = some j → putK us k v = us.set j (k, v) ∧ (∃ u, us[j]? = some (k, u))
  | [], j, _, e => by cases e
  | (k', u) :: r, j, nd, e => by
    obtain ⟨n1, n2⟩ := List.nodup_cons.mp nd
    rw [List.findIdx?_cons] at e
    by_cases hk : k' = k
    · subst hk
      rw [show decide ((k', u).1 = k') = true from decide_eq_true rfl] at e
      cases e
      refine ⟨?_, u, rfl⟩
      unfold putK
      rw [if_pos (by simp)]
      show (if k' = k' then (k', v) else (k', u)) :: r.map _ = _
      rw [if_pos rfl]
      show _ = (k', v) :: r
      congr 1
      refine (List.map_congr_left fun p hp => ?_).trans (List.map_id r)
      have : ¬ p.1 = k' := fun z => n1 (List.mem_map.mpr ⟨p, hp, z⟩)
      rw [if_neg this]
      rfl
    · rw [show decide ((k', u).1 = k) = false from decide_eq_false hk] at e
      obtain ⟨i, e1, rfl⟩ := Option.map_eq_some_iff.mp (show (r.findIdx? fun e => decide (e.1 = k)).map (· + 1) = some j from e)
      obtain ⟨h1, h2⟩ := putK_set (v := v) n2 e1
      refine ⟨?_, h2⟩
      have any : (r.any fun kv => decide (kv.1 = k)) = true := by
        obtain ⟨u', hu⟩ := h2
        exact List.any_eq_true.mpr ⟨_, List.mem_of_getElem? hu, decide_eq_true rfl⟩
      unfold putK at h1 ⊢
      rw [if_pos any] at h1
      rw [if_pos (by rw [List.any_cons, any, Bool.or_true])]
      show (if k' = k then (k', v) else (k', u)) :: _ = _
      rw [if_neg hk, h1]
      rfl
theorem putK_snoc {k : L2.Key} {v : V} {us : List (L2.Key × V)} (e : (us.findIdx? fun e => decide (e.1 = k)) = none) : putK us k v = us ++ [(k, v)] ∧ k ∉ us.map (·.1) := by
  have no : ∀ p ∈ us, ¬ p.1 = k := fun p hp z => by
    have := List.findIdx?_eq_none_iff.mp e p hp
    simp [z] at this
  refine ⟨?_, fun m => ?_⟩
  · unfold putK
    rw [if_neg fun h => ?_]
    obtain ⟨p, hp, z⟩ := List.any_eq_true.mp h
    exact no p hp (of_decide_eq_true z)
  · obtain ⟨p, hp, z⟩ := List.mem_map.mp m
    exact no p hp z
theorem map_set_fst {α β : Type} {l : List (α × β)} {j : Nat} {k : α} {v w : β} (h : l[j]? = some (k, w)) : (l.set j (k, v)).map (·.1) = l.map (·.1) := by
  rw [List.map_set]
  exact set_self (by rw [List.getElem?_map, h]; rfl)
section
variable {CL : Calls} {Z : Ext} {K : PySem.W.Frag} {ow0 ow ex : List Addr} {Hb S H H1 : Hp} {ρ : Ev} {σ : L2.St} {i : Nat} {π : List Nat} {u : V} {b0 : List Addr}
/-- the node p of a tree is written -/
theorem Foc.write {t : Tr} {u' : Addr} (f : Foc CL Z K ow0 Hb S ρ σ H ow ex i π t (.ref u') b0) {o : HO} {t' : Tr} {b' : List Addr} (hp : u' ∈ b0) (no : NT o) (z : RZ Z (upd H u' o)) (h : ∀ H', Agree (b0.filter (· ≠ u')) H H' → Agree ex H H' → H' u' = some o → TrAt K Z.nst (hid ow H) H' (.ref u') t' b') (nd : b'.Nodup) (inb : ∀ b ∈ b', b ∈ b0 ∨ b ∈ ex) :
    ∃ T, slotT ρ i = some T ∧ T.sub π = some t ∧ Rel CL Z K ow0 Hb S (ρ.set i (some (ofT (T.putAt π t')))) σ (upd H u' o) ow := by
  have pi := f.in_ u' hp
  have same : hid ow (upd H u' o) = hid ow H := hid_upd pi.2.1
  refine f.put t' (upd H u' o) ow b' (fun a x n q1 q2 => ?_) (by rw [same]; exact fun _ _ q => q) (f.rel.r.gr.put z no) (fun _ m => m) ?_ nd fun b m => (inb b m).imp id .inl
  · rw [upd_ne fun e => n (by rw [e]; exact List.mem_append_left _ (List.mem_append_left _ hp))]
    exact q2
  · rw [same]
    refine h _ (fun a m x _ q => ?_) (fun a m x _ q => ?_) upd_same
    · rw [upd_ne (by simpa using (List.mem_filter.mp m).2)]
      exact q
    · rw [upd_ne fun e => pi.2.2.2 (by rw [← e]; exact m)]
      exact q
theorem Foc.dput {kvs : List (D × Tr)} {k : L2.Key} {v : V} {t : Tr} {bs : List Addr} (f : Foc CL Z K ow0 Hb S ρ σ H ow ex i π (.dc .k false kvs) u b0) (hv : TrAt K Z.nst (hid ow H) H v t bs) (nb : bs.Nodup) (sub : ∀ b ∈ bs, b ∈ ex) :
    ∃ p us, u = .ref p ∧ H p = some (.dK us) ∧ us.length = kvs.length ∧ ∃ T, slotT ρ i = some T ∧ T.sub π = some (.dc .k false kvs) ∧ Rel CL Z K ow0 Hb S (ρ.set i (some (ofT (T.putAt π (.dc .k false (dput kvs (keyD k) t)))))) σ (upd H p (.dK (putK us k v))) ow := by
  have f' := f
  obtain ⟨rel_, at_, nd, in_, put_⟩ := f
  cases at_ with
  | dk h l hk n e1 e2 g =>
    rename_i p o us vs ts as
    cases l
    subst e1
    subst e2
    obtain ⟨n1, n2⟩ := List.nodup_cons.mp nd
    have hz : RZ Z (upd H p (.dK (putK us k v))) := rz_updK f'.rel.r.gr.ext (in_ p List.mem_cons_self).2.2.1 h
    have as_off : ∀ a ∈ as, a ∈ (p :: as).filter (· ≠ p) := fun a m => List.mem_filter.mpr ⟨List.mem_cons_of_mem _ m, by simpa using fun e : a = p => n1 (e ▸ m)⟩
    refine ⟨p, us, rfl, h, by simpa using congrArg List.length hk, ?_⟩
    cases q : us.findIdx? fun e => decide (e.1 = k) with
    | none =>
      obtain ⟨s1, s2⟩ := putK_snoc (v := v) q
      have s3 : dput kvs (keyD k) t = kvs ++ [(keyD k, t)] := by unfold dput; rw [kIx_us hk, q]
      refine f'.write (b' := p :: (as ++ bs)) List.mem_cons_self nt_dKs hz (fun H' a1 a2 e => ?_) ?_ fun b m => ?_
      · rw [s3]
        refine .dk e rfl (by rw [s1, List.map_append, List.map_append, hk]; rfl) (by rw [s1, List.map_append]; exact List.nodup_append.mpr ⟨n, by simp, fun a m b mb z => s2 (by have zb : b = k := List.mem_singleton.mp mb; rw [← zb, ← z]; exact m)⟩) rfl rfl ?_
        rw [s1, List.map_append, List.map_append]
        exact (g.mono (fun _ _ q => q) fun a m => a1 a (as_off a m)).snoc (hv.mono (fun _ _ q => q) fun a m => a2 a (sub a m))
      · refine List.nodup_cons.mpr ⟨fun m => ?_, List.nodup_append.mpr ⟨n2, nb, fun a m b mb z => (in_ a (List.mem_cons_of_mem _ m)).2.2.2 (by rw [z]; exact sub b mb)⟩⟩
        rcases List.mem_append.mp m with m | m
        · exact n1 m
        · exact (in_ p List.mem_cons_self).2.2.2 (sub p m)
      · rcases List.mem_cons.mp m with rfl | m
        · exact .inl List.mem_cons_self
        · exact (List.mem_append.mp m).imp (List.mem_cons_of_mem _) (sub b)
    | some j =>
      obtain ⟨s1, w, s2⟩ := putK_set (v := v) n q
      have hj : ∃ c, kvs[j]? = some (keyD k, c) := by
        have e : (kvs.map (·.1))[j]? = some (keyD k) := by rw [← hk, List.getElem?_map, s2]; rfl
        rw [List.getElem?_map] at e
        obtain ⟨x, hx, ex⟩ := Option.map_eq_some_iff.mp e
        exact ⟨x.2, by rw [hx, ← ex]⟩
      obtain ⟨c, hj⟩ := hj
      have s3 : dput kvs (keyD k) t = kvs.set j (keyD k, t) := by
        unfold dput
        rw [kIx_us hk, q]
        show kvs.set j ((kvs.getD j (keyD k, t)).1, t) = _
        rw [List.getD_eq_getElem?_getD, hj]
        rfl
      obtain ⟨u1, bb, g1, g2, g3, g4, g5⟩ := g.upd (i := j) (t := c) n2 (by rw [List.getElem?_map, hj]; rfl)
      have key : ∀ H', Agree ((p :: as).filter (· ≠ p)) H H' → Agree ex H H' → ∃ cs, TrAll K Z.nst (hid ow H) H' ((us.map (·.2)).set j v) ((kvs.map (·.2)).set j t) cs ∧ cs.Nodup ∧ ∀ c ∈ cs, (c ∈ as ∧ c ∉ bb) ∨ c ∈ bs := fun H' a1 a2 =>
        g5 (fun _ _ q => q) (fun a m _ => a1 a (as_off a m)) (hv.mono (fun _ _ q => q) fun a m => a2 a (sub a m)) nb fun b m => .inr fun z => (in_ b (List.mem_cons_of_mem _ z)).2.2.2 (sub b m)
      have H1 : Agree ((p :: as).filter (· ≠ p)) H (upd H p (.dK (putK us k v))) := fun a m x _ q => by
        rw [upd_ne (by simpa using (List.mem_filter.mp m).2)]; exact q
      have H2 : Agree ex H (upd H p (.dK (putK us k v))) := fun a m x _ q => by
        rw [upd_ne fun e => (in_ p List.mem_cons_self).2.2.2 (by rw [← e]; exact m)]; exact q
      obtain ⟨cs, c1, c2, c3⟩ := key _ H1 H2
      have same : hid ow (upd H p (.dK (putK us k v))) = hid ow H := hid_upd (in_ p List.mem_cons_self).2.1
      refine f'.put _ _ ow (p :: cs) (fun a x n q1 q2 => ?_) (by rw [same]; exact fun _ _ q => q) (f'.rel.r.gr.put hz nt_dKs) (fun _ m => m) ?_ (List.nodup_cons.mpr ⟨fun m => ?_, c2⟩) fun b m => ?_
      · rw [upd_ne fun e => n (by rw [e]; exact List.mem_append_left _ (List.mem_append_left _ List.mem_cons_self))]
        exact q2
      · rw [same, s3]
        refine .dk upd_same rfl ?_ ?_ rfl rfl ?_
        · rw [s1, List.map_set, hk, map_set_fst hj]
          exact set_self (by rw [List.getElem?_map, hj]; rfl)
        · rw [s1, map_set_fst s2]
          exact n
        · rw [s1, List.map_set, List.map_set, ← s1]
          exact c1
      · rcases c3 p m with z | z
        · exact n1 z.1
        · exact (in_ p List.mem_cons_self).2.2.2 (sub p z)
      · rcases List.mem_cons.mp m with rfl | m
        · exact .inl List.mem_cons_self
        · exact (c3 b m).elim (fun z => .inl (List.mem_cons_of_mem _ z.1)) fun z => .inr (.inl (sub b z))
end
section
variable {CL : Calls} {Z : Ext} {K : PySem.W.Frag} {ow0 ow ex : List Addr} {Hb S H H1 : Hp} {ρ : Ev} {σ : L2.St} {i : Nat} {π : List Nat} {u : V} {b0 : List Addr}
/-- a list of data within a tree, written -/
theorem Foc.lput {xs : List D} (f : Foc CL Z K ow0 Hb S ρ σ H ow ex i π (.own xs) u b0) : ∃ p vs, u = .ref p ∧ H p = some (.lst vs) ∧ DtAll K (hid ow H) vs xs ∧ p ∈ ow ∧
    ∀ ws ys, DtAll K (hid ow H) ws ys → ∃ T, slotT ρ i = some T ∧ T.sub π = some (.own xs) ∧ Rel CL Z K ow0 Hb S (ρ.set i (some (ofT (T.putAt π (.own ys))))) σ (upd H p (.lst ws)) ow := by
  have f' := f
  obtain ⟨rel_, at_, nd, in_, put_⟩ := f
  cases at_ with
  | own h g =>
    rename_i p vs
    have pi := in_ p List.mem_cons_self
    refine ⟨p, vs, rfl, h, g, pi.2.1, fun ws ys hw => ?_⟩
    exact f'.write (b' := [p]) List.mem_cons_self nt_lst (f'.rel.r.gr.ext.upd pi.2.2.1 h) (fun H' _ _ e => .own e hw) (by simp) fun b m => .inl m
/-- a list of trees, an item put otherwise -/
theorem Foc.kset {ts : List Tr} {j : Nat} {v : V} {t : Tr} {bs : List Addr} (f : Foc CL Z K ow0 Hb S ρ σ H ow ex i π (.ls ts) u b0) (hj : j < ts.length) (hv : TrAt K Z.nst (hid ow H) H v t bs) (nb : bs.Nodup) (sub : ∀ b ∈ bs, b ∈ ex) :
    ∃ p vs, u = .ref p ∧ H p = some (.lst vs) ∧ vs.length = ts.length ∧ ∃ T, slotT ρ i = some T ∧ T.sub π = some (.ls ts) ∧ Rel CL Z K ow0 Hb S (ρ.set i (some (ofT (T.putAt π (.ls (ts.set j t)))))) σ (upd H p (.lst (vs.set j v))) ow := by
  have f' := f
  obtain ⟨rel_, at_, nd, in_, put_⟩ := f
  cases at_ with
  | ls h g =>
    rename_i p vs as
    obtain ⟨n1, n2⟩ := List.nodup_cons.mp nd
    have pi := in_ p List.mem_cons_self
    obtain ⟨u1, bb, g1, g2, g3, g4, g5⟩ := g.upd (i := j) (t := ts[j]) n2 (by simp [hj])
    have hz : RZ Z (upd H p (.lst (vs.set j v))) := f'.rel.r.gr.ext.upd pi.2.2.1 h
    have same : hid ow (upd H p (.lst (vs.set j v))) = hid ow H := hid_upd pi.2.1
    have off : ∀ a, a ≠ p → ∀ o : HO, H a = some o → upd H p (.lst (vs.set j v)) a = some o := fun a n o q => by rw [upd_ne n]; exact q
    obtain ⟨cs, c1, c2, c3⟩ := g5 (Hd' := hid ow H) (H' := upd H p (.lst (vs.set j v))) (v' := v) (t' := t) (b' := bs) (fun _ _ q => q) (fun a m _ o _ q => off a (fun e => n1 (by rw [← e]; exact m)) o q) (hv.mono (fun _ _ q => q) fun a m o _ q => off a (fun e => pi.2.2.2 (by rw [← e]; exact sub a m)) o q) nb fun b m => .inr fun z => (in_ b (List.mem_cons_of_mem _ z)).2.2.2 (sub b m)
    refine ⟨p, vs, rfl, h, g.len, f'.put _ _ ow (p :: cs) (fun a x n q1 q2 => off a (fun e => n (by rw [e]; exact List.mem_append_left _ (List.mem_append_left _ List.mem_cons_self))) x q2) (by rw [same]; exact fun _ _ q => q) (f'.rel.r.gr.put hz nt_lst) (fun _ m => m) (by rw [same]; exact .ls upd_same c1) (List.nodup_cons.mpr ⟨fun m => ?_, c2⟩) fun b m => ?_⟩
    · rcases c3 p m with z | z
      · exact n1 z.1
      · exact pi.2.2.2 (sub p z)
    · rcases List.mem_cons.mp m with rfl | m
      · exact .inl List.mem_cons_self
      · exact (c3 b m).elim (fun z => .inl (List.mem_cons_of_mem _ z.1)) fun z => .inr (.inl (sub b z))
/-- .. one more at its end -/
theorem Foc.kapp {ts : List Tr} {v : V} {t : Tr} {bs : List Addr} (f : Foc CL Z K ow0 Hb S ρ σ H ow ex i π (.ls ts) u b0) (hv : TrAt K Z.nst (hid ow H) H v t bs) (nb : bs.Nodup) (sub : ∀ b ∈ bs, b ∈ ex) :
    ∃ p vs, u = .ref p ∧ H p = some (.lst vs) ∧ vs.length = ts.length ∧ ∃ T, slotT ρ i = some T ∧ T.sub π = some (.ls ts) ∧ Rel CL Z K ow0 Hb S (ρ.set i (some (ofT (T.putAt π (.ls (ts ++ [t])))))) σ (upd H p (.lst (vs ++ [v]))) ow := by
  have f' := f
  obtain ⟨rel_, at_, nd, in_, put_⟩ := f
  cases at_ with
  | ls h g =>
    rename_i p vs as
    obtain ⟨n1, n2⟩ := List.nodup_cons.mp nd
    have pi := in_ p List.mem_cons_self
    refine ⟨p, vs, rfl, h, g.len, f'.write (b' := p :: (as ++ bs)) List.mem_cons_self nt_lst (f'.rel.r.gr.ext.upd pi.2.2.1 h) (fun H' a1 a2 e => ?_) ?_ fun b m => ?_⟩
    · exact .ls e ((g.mono (fun _ _ q => q) fun a m => a1 a (List.mem_filter.mpr ⟨List.mem_cons_of_mem _ m, by simpa using fun e : a = p => n1 (e ▸ m)⟩)).snoc (hv.mono (fun _ _ q => q) fun a m => a2 a (sub a m)))
    · refine List.nodup_cons.mpr ⟨fun m => ?_, List.nodup_append.mpr ⟨n2, nb, fun a m b mb z => (in_ a (List.mem_cons_of_mem _ m)).2.2.2 (by rw [z]; exact sub b mb)⟩⟩
      rcases List.mem_append.mp m with m | m
      · exact n1 m
      · exact pi.2.2.2 (sub p m)
    · rcases List.mem_cons.mp m with rfl | m
      · exact .inl List.mem_cons_self
      · exact (List.mem_append.mp m).imp (List.mem_cons_of_mem _) (sub b)
end
section
variable {X : Cx} {W : WX} {Z : Ext} {CL : Calls} {ow0 : List Addr} {Hb : Hp}
/-! ### targets of any kind -/
abbrev WG := Ev → D → (Ev → Prop) → (Xn → Prop) → Prop
abbrev WGs := Ev → List D → (Ev → Prop) → (Xn → Prop) → Prop
def SimG (X : Cx) (W : WX) (Z : Ext) (CL : Calls) (ow0 : List Addr) (Hb : Hp) (tg : Expr) (b : WG) : Prop := ∀ (S : Hp) (ρ : Ev) (σ : L2.St) (H : Hp) (ow : List Addr) (d : D) (v : V) (k : Ev → Prop) (Ex : Xn → Prop) (Q : L2.St → Hp → Prop),
  Rel CL Z X.K ow0 Hb S ρ σ H ow → Dt X.K (hid ow H) v d → b ρ d k Ex → (∀ ρ' σ' H' ow', k ρ' → Rel CL Z X.K ow0 Hb S ρ' σ' H' ow' → Q σ' H') → (∀ x ρ σ H ow cls d, Ex x → Rel CL Z X.K ow0 Hb S ρ σ H ow → ExR X.K ow X.mg x cls d H → W cls d σ H) → PGat X tg v σ H Q
def SimGs (X : Cx) (W : WX) (Z : Ext) (CL : Calls) (ow0 : List Addr) (Hb : Hp) (ts : List Expr) (b : WGs) : Prop := ∀ (S : Hp) (ρ : Ev) (σ : L2.St) (H : Hp) (ow : List Addr) (ds : List D) (vs : List V) (k : Ev → Prop) (Ex : Xn → Prop) (Q : L2.St → Hp → Prop),
  Rel CL Z X.K ow0 Hb S ρ σ H ow → DtAll X.K (hid ow H) vs ds → b ρ ds k Ex → (∀ ρ' σ' H' ow', k ρ' → Rel CL Z X.K ow0 Hb S ρ' σ' H' ow' → Q σ' H') → (∀ x ρ σ H ow cls d, Ex x → Rel CL Z X.K ow0 Hb S ρ σ H ow → ExR X.K ow X.mg x cls d H → W cls d σ H) → PGsat X ts vs σ H Q
def gB (b : WB) : WG := fun ρ d k _ => b ρ d k
theorem sim_gB {tg : Expr} {b : WB} {is : List Nat} (h : SimB X Z CL ow0 Hb tg b is) : SimG X W Z CL ow0 Hb tg (gB b) := fun S ρ σ H ow d v k Ex Q r hd w g _ => h S ρ σ H ow d v k Q r hd w fun ρ' σ' p r' _ => g ρ' σ' H ow p r'
def gNl : WGs := fun ρ ds k _ => ds = [] ∧ k ρ
def gCn (b : WG) (bs : WGs) : WGs := fun ρ ds k Ex => match ds with
  | d :: r => b ρ d (fun ρ' => bs ρ' r k Ex) Ex
  | [] => False
theorem sim_gnil : SimGs X W Z CL ow0 Hb [] gNl := by
  intro S ρ σ H ow ds vs k Ex Q r h w g _
  obtain ⟨rfl, w⟩ := w
  cases h
  exact PGsat.of pgs_nil ⟨rfl, g _ _ _ _ w r⟩
theorem sim_gcons {e : Expr} {es : List Expr} {b : WG} {bs : WGs} (h1 : SimG X W Z CL ow0 Hb e b) (h2 : SimGs X W Z CL ow0 Hb es bs)
    (hs : (assignEach (e :: es) X.env).map (·.2) = assign e X.env :: (assignEach es X.env).map (·.2) := by rfl) : SimGs X W Z CL ow0 Hb (e :: es) (gCn b bs) := by
  intro S ρ σ H ow ds vs k Ex Q r h w g bx
  cases h with
  | nil => exact (w : False).elim
  | cons hd ht =>
    refine PGsat.of (pgs_cons PGat.pg PGsat.pg hs) ⟨_, _, rfl, ?_⟩
    refine h1 (hid ow H) ρ σ H ow _ _ _ _ _ (r.remark fun _ _ q => q) hd w (fun ρ' σ' H' ow' w' r' => ?_) fun x ρ σ H1 ow1 cls d p r1 er => bx x ρ σ H1 ow1 cls d p (r1.remark (r.mark.trans r1.mark)) er
    exact h2 S ρ' σ' H' ow' _ _ _ _ _ (r'.remark (r.mark.trans r'.mark)) (DtAll.mono r'.mark ht) w' g bx
def gTp (bs : WGs) (n : Nat) : WG := fun ρ d k Ex => match d with
  | .tuple ds => ds.length = n ∧ bs ρ ds k Ex
  | _ => False
theorem sim_gtup {es : List Expr} {kk : Nat} {pos : Pos} {bs : WGs} {n : Nat} (hc : X.calm = true) (h : SimGs X W Z CL ow0 Hb es bs) (hn : (assignEach es X.env).length = n := by rfl) (hst : (assignEach es X.env).findIdx? (·.1) = none := by rfl) : SimG X W Z CL ow0 Hb (.Tuple es kk pos) (gTp bs n) := by
  intro S ρ σ H ow d v k Ex Q r h' w g bx
  cases d with
  | tuple ds =>
    cases h' with
    | tup h1 h2 => exact PGat.of (pg_tup hc PGsat.pg hn hst) ⟨_, _, rfl, hid_le.sqt h1, by rw [h2.length]; exact w.1, h S ρ σ H ow _ _ _ _ _ r h2 w.2 g bx⟩
  | _ => exact (w : False).elim
/-- o[i] = v, by values -/
def rSetAny : TSet := fun o i v H Q => rSetD o i v H Q ∨ rSetL o i v H Q
theorem set_any (hu : X.A.units + 1 < cLine) : PSet X rSetAny := by
  intro pins s σ H o i v ov iv u Q I ro ri rv h
  rcases h with h | h
  · exact set_dict hu pins s σ H o i v ov iv u Q I ro ri rv h
  · exact set_list pins s σ H o i v ov iv u Q I ro ri rv h
/-- the place t, written at k by the data x -/
def setAt (t : Tr) (k : D) (x : D) (P : Tr → Prop) : Prop := match t with
  | .dc .k false kvs => isKey k = true ∧ kvs.length < sizeLine ∧ P (.dc .k false (dput kvs k (.d x)))
  | .own xs => match k with
    | .int i => match ixN xs.length i with
      | some j => P (.own (xs.set j x))
      | none => False
    | _ => False
  | .ls ts => match k with
    | .int i => match ixN ts.length i with
      | some j => P (.ls (ts.set j (.d x)))
      | none => False
    | _ => False
  | _ => False
theorem ixN_lt {n : Nat} {i : Int} {j : Nat} (h : ixN n i = some j) : j < n := by
  unfold ixN at h
  split at h
  · split at h
    · cases h; omega
    · cases h
  · split at h
    · cases h; omega
    · cases h
theorem Foc.setAt {ow ex : List Addr} {S H : Hp} {ρ : Ev} {σ : L2.St} {i : Nat} {π : List Nat} {u kv v : V} {b0 : List Addr} {t : Tr} {k x : D} {P : Tr → Prop} {Q : Hp → Prop} (f : Foc CL Z X.K ow0 Hb S ρ σ H ow ex i π t u b0) (hk : Dt X.K (hid ow H) kv k) (hx : Dt X.K (hid ow H) v x) (w : setAt t k x P)
    (g : ∀ t' T H', P t' → slotT ρ i = some T → T.sub π = some t → Rel CL Z X.K ow0 Hb S (ρ.set i (some (ofT (T.putAt π t')))) σ H' ow → Q H') : rSetAny u kv v H Q := by
  unfold Pd.setAt at w
  split at w
  · rename_i kvs
    obtain ⟨ik, hlen, w⟩ := w
    obtain ⟨kk, rfl, rfl⟩ := isKey_of ik hk
    obtain ⟨p, us, rfl, q1, q2, T, q3, q4, q5⟩ := f.dput (k := kk) (v := v) (t := .d x) (bs := []) (.d hx) .nil fun b m => nomatch m
    exact .inl ⟨p, _, rfl, .inl ⟨us, kk, q1, rfl, by rw [q2]; exact hlen, rfl⟩, g _ _ _ w q3 q4 q5⟩
  · rename_i xs
    split at w
    · rename_i ii
      split at w
      · rename_i j ej
        cases hk
        obtain ⟨p, vs, rfl, q1, q2, _, q3⟩ := f.lput
        obtain ⟨T, q4, q5, q6⟩ := q3 (vs.set j v) (xs.set j x) (q2.set hx j)
        exact .inr ⟨p, vs, ii, j, rfl, rfl, q1, by rw [q2.length]; exact ej, g _ _ _ w q4 q5 q6⟩
      · exact w.elim
    · exact w.elim
  · rename_i ts
    split at w
    · rename_i ii
      split at w
      · rename_i j ej
        cases hk
        obtain ⟨p, vs, rfl, q1, q2, T, q4, q5, q6⟩ := f.kset (j := j) (v := v) (t := .d x) (bs := []) (ixN_lt ej) (.d hx) .nil fun b m => nomatch m
        exact .inr ⟨p, vs, ii, j, rfl, rfl, q1, by rw [q2]; exact ej, g _ _ _ w q4 q5 q6⟩
      · exact w.elim
    · exact w.elim
  · exact w.elim
/-- P[k] as a target -/
def gSb (i : Nat) (wp : WPt) (wk : WE) : WG := fun ρ d k Ex => wp ρ (fun π t => wk ρ (fun z => match z.rd with
  | some kd => setAt t kd d fun t' => match slotT ρ i with
    | some T => k (ρ.set i (some (ofT (T.putAt π t'))))
    | none => False
  | none => False) Ex) Ex
theorem sim_gsub (i : Nat) {ea eb : Expr} {wp : WPt} {wk : WE} {pos : Pos} (hu : X.A.units + 1 < cLine) (hp : SimP X W Z CL ow0 Hb i ea wp) (hk : SimE X W Z CL ow0 Hb eb wk)
    (ha : ∀ v, assign (.Subscript ea eb pos) X.env v = (do
      let ov ← holding [v] (eval ea X.env)
      let iv ← holding [v, ov] (eval eb X.env)
      standAt pos
      holding [v, ov, iv] (setItem ov iv v)
      release [v, ov, iv] []) := by intro _; rfl) : SimG X W Z CL ow0 Hb (.Subscript ea eb pos) (gSb i wp wk) := by
  intro S ρ σ H ow d v k Ex Q r hd w g bx
  refine PGat.of (pg_sub PEat.pe PEat.pe (set_any hu) ha) ?_
  have bd : ∀ {H1 : Hp}, Rel CL Z X.K ow0 Hb S ρ σ H1 ow → Bd Z X.K ow X.mg W σ H1 Ex := fun r1 x cls dd H' p er e z => bx x ρ σ H' ow cls dd p (r1.step e z) er
  refine hp S ρ σ H ow [] _ _ _ r.e0 w (fun π t u b0 H2 w2 e2 f2 => ?_) (bd r)
  refine hk S ρ σ H2 ow _ _ _ f2.rel.r w2 (fun z kv H3 w3 e3 z3 h3 => ?_) (bd f2.rel.r)
  have f3 := f2.step e3 z3
  split at w3
  · rename_i kd ez
    have hx : Dt X.K (hid ow H3) v d := Dt.mono ((hid_mono e2 r.gr.fpo fun _ m => .inl m).trans (hid_mono e3 f2.rel.r.gr.fpo fun _ m => .inl m)) hd
    -- the key as data in the heap
    cases hkd : kd with
    | int ii =>
      subst hkd
      have ek := h3.int ez
      subst ek
      refine f3.setAt (.int ii) hx w3 fun t' T H' p eT _ r' => ?_
      rw [eT] at p
      exact g _ _ _ _ p r'
    | str ss =>
      subst hkd
      have ek := h3.str ez
      subst ek
      refine f3.setAt (.str ss) hx w3 fun t' T H' p eT _ r' => ?_
      rw [eT] at p
      exact g _ _ _ _ p r'
    | _ =>
      subst hkd
      unfold Pd.setAt at w3
      split at w3
      · exact absurd w3.1 (by intro z; cases z)
      · exact w3.elim
      · exact w3.elim
      · exact w3.elim
  · exact w3.elim
/-- targets = e, the value data -/
def wAsgG (b : WG) (w : WE) : WS := fun E ρ => w ρ (fun y => match y.kp with
  | some d => b ρ d (fun ρ' => E.nx ρ') (fun _ => False)
  | none => False) (fun x => E.ex x ρ)
theorem sim_asgG {tg e : Expr} {b : WG} {we : WE} {pos : Pos} (h : SimE X W Z CL ow0 Hb e we) (hb : SimG X W Z CL ow0 Hb tg b) (hs : swapsWithSole [tg] e pos.line X.env = pure false := by rfl) (hw : swappedStores [tg] e X.env = pure none := by rfl)
    (h1 : (assignEach [tg] X.env).map (·.2) = [assign tg X.env] := by rfl) : SimS X W Z CL ow0 Hb (.Assign [tg] e pos) (wAsgG b we) := by
  intro S ρ σ H ow E D r w o
  refine PSat.of (ps_asg PEat.pe PGat.pg hs hw h1) (h S ρ σ H ow _ _ _ r w (fun y v H' p e z q => ?_) (o.bd r))
  split at p
  · rename_i d ed
    exact hb S ρ σ H' ow d v _ _ _ (r.step e z) (q.kp ed) p (fun ρ' σ' H2 ow2 n r' => o.nx ρ' σ' H2 ow2 n r') fun _ _ _ _ _ _ _ p => p.elim
  · exact p.elim
theorem Foc.rv {K : PySem.W.Frag} {ow ex : List Addr} {S H : Hp} {ρ : Ev} {σ : L2.St} {i : Nat} {π : List Nat} {u : V} {b0 : List Addr} {t : Tr} (f : Foc CL Z K ow0 Hb S ρ σ H ow ex i π t u b0) : RV CL Z K ow H H u (.tr .bor t) := ⟨b0, f.at_, fun a m => ⟨(f.in_ a m).2.1, (f.in_ a m).2.2.1⟩⟩
/-- the number at the place t's k -/
def intAt (t : Tr) (k : D) : Option Int := match t with
  | .dc .k _ kvs => if isKey k = true then match dget kvs k with
      | some (.d (.int a)) => some a
      | _ => none
    else none
  | .own xs => match k with
    | .int i => if 0 ≤ i then match xs[i.toNat]? with
        | some (.int a) => some a
        | _ => none
      else none
    | _ => none
  | _ => none
def rGetAny : V → V → Hp → VK → Prop := fun o i H Q => (∃ p z, o = .ref p ∧ DGet H p i (some z) ∧ Q z H) ∨ ∃ p us k y, o = .ref p ∧ i = .int k ∧ 0 ≤ k ∧ H p = some (.lst us) ∧ us[k.toNat]? = some y ∧ Q y H
theorem get_any (hu : X.A.units + 1 < cLine) : PGet X rGetAny := by
  intro pins s σ H o i ov iv Q I ro ri h
  rcases h with ⟨p, z, rfl, g, q⟩ | h
  · cases (show ov = Value.ref p from ro)
    exact d_getItem hu I g ri fun w' s' I' r' => ⟨z, H, I', r', q⟩
  · exact get_list pins s σ H o i ov iv Q I ro ri h
theorem RV.intAt {K : PySem.W.Frag} {ow : List Addr} {H0 H : Hp} {u kv : V} {m : Md} {t : Tr} {k : D} {a : Int} {Q : VK} (h : RV CL Z K ow H0 H u (.tr m t)) (hk : Dt K H kv k) (e : intAt t k = some a) (q : Q (.int a) H) : rGetAny u kv H Q := by
  unfold Pd.intAt at e
  split at e
  · rename_i lk kvs
    split at e
    · rename_i ik
      split at e
      · rename_i a' eg
        cases e
        obtain ⟨p, z, rfl, g1, g2⟩ := h.dget hk ik eg
        have g3 : Dt K (hid ow H) z (.int a) := g2 _ rfl
        cases g3
        exact .inl ⟨p, _, rfl, g1, q⟩
      · cases e
    · cases e
  · rename_i xs
    split at e
    · rename_i i
      split at e
      · rename_i i0
        split at e
        · rename_i a' eg
          cases e
          cases hk
          obtain ⟨as, h⟩ := h.tree
          cases h with
          | own h1 h2 =>
            obtain ⟨y, y1, y2⟩ := h2.get eg
            cases y2
            exact .inr ⟨_, _, i, _, rfl, rfl, i0, h1, y1, q⟩
        · cases e
      · cases e
    · cases e
  · cases e
/-- P[k] op= e, whole numbers -/
def wPAug (i : Nat) (f : Int → Int → Int) (wp : WPt) (wk wv : WE) : WS := fun E ρ => wp ρ (fun π t => wk ρ (fun z => match z.rd with
  | some kd => match intAt t kd with
    | some a => wv ρ (fun y => match y.rd with
      | some (.int b) => setAt t kd (.int (f a b)) fun t' => match slotT ρ i with
        | some T => E.nx (ρ.set i (some (ofT (T.putAt π t'))))
        | none => False
      | _ => False) (fun x => E.ex x ρ)
    | none => False
  | none => False) (fun x => E.ex x ρ)) (fun x => E.ex x ρ)
theorem sim_paug (i : Nat) {op : Operator} {f : Int → Int → Int} {ea eb ev : Expr} {wp : WPt} {wk wv : WE} {tpos pos : Pos} (hu : X.A.units + 1 < cLine) (ho : PIp X op (ipI f)) (hp : SimP X W Z CL ow0 Hb i ea wp) (hk : SimE X W Z CL ow0 Hb eb wk) (hv : SimE X W Z CL ow0 Hb ev wv)
    (ha : ∀ ov iv new, augStore eb ov iv new = (do holding [new, ov, iv] (setItem ov iv new); release [new, ov, iv] []; pure .next) := by intros; rfl) : SimS X W Z CL ow0 Hb (.AugAssign (.Subscript ea eb tpos) op ev pos) (wPAug i f wp wk wv) := by
  intro S ρ σ H ow E D r w o
  refine PSat.of (ps_augS PEat.pe PEat.pe (get_any hu) PEat.pe ho (set_any hu) ha) ?_
  refine hp S ρ σ H ow [] _ _ _ r.e0 w (fun π t u b0 H2 w2 e2 f2 => ?_) (o.bd r)
  refine hk S ρ σ H2 ow _ _ _ f2.rel.r w2 (fun z kv H3 w3 e3 z3 h3 => ?_) (o.bd f2.rel.r)
  have f3 := f2.step e3 z3
  split at w3
  · rename_i kd ez
    split at w3
    · rename_i a ea
      refine f3.rv.intAt (h3.rd ez) ea ?_
      refine hv S ρ σ H3 ow _ _ _ f3.rel.r w3 (fun y v H4 w4 e4 z4 h4 => ?_) (o.bd f3.rel.r)
      have f4 := f3.step e4 z4
      split at w4
      · rename_i b eb
        refine ⟨a, b, rfl, h4.int eb, ?_⟩
        cases hkd : kd with
        | int ii =>
          subst hkd
          have ek := h3.int ez
          subst ek
          refine f4.setAt (.int ii) (.int _) w4 fun t' T H' p eT _ r' => ?_
          rw [eT] at p
          exact o.nx _ _ _ _ p r'
        | str ss =>
          subst hkd
          have ek := h3.str ez
          subst ek
          refine f4.setAt (.str ss) (.int _) w4 fun t' T H' p eT _ r' => ?_
          rw [eT] at p
          exact o.nx _ _ _ _ p r'
        | _ =>
          subst hkd
          unfold Pd.setAt at w4
          split at w4
          · exact absurd w4.1 (by intro z; cases z)
          · exact w4.elim
          · exact w4.elim
          · exact w4.elim
      · exact w4.elim
    · exact w3.elim
  · exact w3.elim
end
theorem hu1 {n : Nat} (h : n + 200 < cLine) : n + 1 < cLine := by omega
end Pd

/-! Pd44: enumerate of a text. -/
namespace Pd
open PySem PySem.Spec PyProof.Rows L2
theorem pyIter_text {prog : Program} {w : World} {A : Around} {E : Value → Shared → Prop} {s : Shared} {x : Str} {t : Tok} {Q : Value → Shared → Prop}
    (hQ : Q (.ref s.heap.objs.size) { s with heap := s.heap.push { cls := .type (strIterType x), data := .fields #[.str x t, .int 0 0] } }) : wpAny (model prog w) A (pyIter (.str x t)) Q E s := by
  cases ha : x.cps.all (· < 128)
  · simp only [strIterType, ha, Bool.false_eq_true, if_false] at hQ
    exact wpAny_pyIter_wide ha hQ
  · simp only [strIterType, ha, if_true] at hQ
    exact wpAny_pyIter_ascii ha hQ
set_option maxHeartbeats 1000000 in
theorem enumS_new (x : Str) (t : Tok) :
    Meets (Builtin.«enumerate.__new__» ⟨[.type "enumerate", .str x t], []⟩) (fun _ R s =>
      R (.ok (.ret (.ref (s.heap.push { cls := .type (strIterType x), data := .fields #[.str x t, .int 0 0] }).objs.size)))
        { s with heap := (s.heap.push { cls := .type (strIterType x), data := .fields #[.str x t, .int 0 0] }).push { cls := .type "enumerate", data := .fields #[.none, .bool false, .ref s.heap.objs.size, rawInt 0, .none, .none] } }) :=
  .of_wp fun prog w A R s hyp => by
    obtain ⟨hp, gg, dd, tk, os⟩ := s
    have fin := hyp
    have subE := sub_enumerate
    wp_walk
    refine wpAny_stack_any fun st => wpAny_pure ?_
    split
    · rename_i c _ _ _ _ _
      cases (c == Value.type "enumerate")
      · wp_walk using pyIter_text
        exact ⟨_, rfl, fin⟩
      · wp_walk using pyIter_text
        exact ⟨_, rfl, fin⟩
    · wp_walk using pyIter_text
      exact ⟨_, rfl, fin⟩
section
variable {prog : Program} {w : World} {A : Around} {E : Value → Shared → Prop} {s : Shared}
theorem enumS_call {x : Str} {t : Tok} {Q : Value → Shared → Prop}
    (fin : ∀ h', IsEnum h' (s.heap.objs.size + 1) s.heap.objs.size 0 .none → h'.IsStrIter s.heap.objs.size (strIterType x) x t 0 → (∀ b o, s.heap.get? b = some o → h'.get? b = some o) → Q (.ref (s.heap.objs.size + 1)) { s with heap := h' }) :
    wpAny (model prog w) A (call (.type "enumerate") [.str x t]) Q E s := by
  refine callType_new F.called_enumerate (by decide) (F.typeCall_enumerate_1 _) (F.newCall_enumerate_1 _) (fun obj => F.args_object_init_2 obj _) F.entry_enumerate_new (enumS_new x t) ?_
  have grown : (s.heap.push { cls := .type (strIterType x), data := .fields #[.str x t, .int 0 0] }).objs.size = s.heap.objs.size + 1 := Heap.size_push ..
  show _ ∧ _
  rw [grown]
  have isE : IsEnum ((s.heap.push { cls := .type (strIterType x), data := .fields #[.str x t, .int 0 0] }).push { cls := .type "enumerate", data := .fields #[.none, .bool false, .ref s.heap.objs.size, rawInt 0, .none, .none] }) (s.heap.objs.size + 1) s.heap.objs.size 0 .none := by
    have z := Heap.get?_push_size (s.heap.push { cls := .type (strIterType x), data := .fields #[.str x t, .int 0 0] }) (o := { cls := .type "enumerate", data := .fields #[.none, .bool false, .ref s.heap.objs.size, rawInt 0, .none, .none] }) rfl
    rw [grown] at z
    exact z
  exact ⟨⟨_, isE, rfl⟩, fin _ isE ⟨_, Heap.get?_push_of_some _ (Heap.get?_push_size _ rfl), rfl, rfl⟩ fun b o q => Heap.get?_push_of_some _ (Heap.get?_push_of_some _ q)⟩
end
/-- the text's signs with their places, in new pairs -/
def IteS (x : Str) : It :=
  ⟨fun i H => i < x.cps.size, fun i H v H' => ∃ T c, v = .ref T ∧ H T = none ∧ x.cps[i]? = some c ∧ H' = upd H T (.tup [.int (i : Nat), .str ⟨#[c]⟩]), fun i H => x.cps.size ≤ i⟩
theorem turn_enumS {P : Program} {w : World} {K : PySem.W.Frag} {elts : List Expr} {kk : Nat} {tpos : Pos} {e it : Addr} {x : Str} {t : Tok} :
    Turn P w K (.Tuple elts kk tpos) (IteS x) [e, it] e (fun i h => (∃ old, IsEnum h e it ((i : Nat) : Int) old) ∧ h.IsStrIter it (strIterType x) x t i ∧ e ≠ it ∧ i ≤ x.cps.size) where
  mem := by simp
  obj := fun i h st b hb => by
    obtain ⟨⟨old, isE⟩, ⟨o, at_, _, dat⟩, _⟩ := st
    rcases (by simpa using hb : b = e ∨ b = it) with rfl | rfl
    · exact ⟨_, isE, fun v q => nomatch q⟩
    · exact ⟨o, at_, fun v q => by rw [dat] at q; cases q⟩
  keep := fun i h h' st k => let ⟨⟨old, isE⟩, ⟨o, ho, r⟩, ne⟩ := st; ⟨⟨old, k e (by simp) _ isE⟩, ⟨o, k it (by simp) o ho, r⟩, ne⟩
  item := by
    intro X hP hw hK calm i pins s σ H E I hf st go
    subst hP hw hK
    obtain ⟨⟨old, isE⟩, isI, ne, _⟩ := st
    have lt : i < x.cps.size := go
    have el : e < s.heap.objs.size := Heap.lt_size isE
    have il : it < s.heap.objs.size := by obtain ⟨_, q, _⟩ := isI; exact Heap.lt_size q
    have quiet : X.A.in1.handled = none := by simpa using I.ok.hd calm
    refine wpAny_pyNext_enum_itemD (Draws.text quiet it x t) isE isI lt ne (by simpa using ne) fun v h' tk hv out st' pair size kept => ?_
    refine ⟨_, rfl, wpAny_letOwnedTupleGo_enum (s := { s with heap := h', toks := tk + 1 }) out fun h2 isE2 same => ?_⟩
    obtain ⟨c, u, hc, rfl⟩ := hv
    have pair2 : h2.get? s.heap.objs.size = some { cls := .type "tuple", data := .seq #[.int i tk, .str ⟨#[c]⟩ u] } := (same.2 _ (Nat.ne_of_gt el)).trans pair
    have new : ObjOk X.prog X.w (upd H s.heap.objs.size (.tup [.int (i : Nat), .str ⟨#[c]⟩])) h2 s.heap.objs.size (.tup [.int (i : Nat), .str ⟨#[c]⟩]) := ⟨by show 2 ≤ sizeLine; decide, [.int i tk, .str ⟨#[c]⟩ u], .cons ⟨_, rfl⟩ (.cons ⟨_, rfl⟩ .nil), ⟨_, pair2, rfl, _, rfl⟩⟩
    have J : Inv X pins σ (upd H s.heap.objs.size (.tup [.int (i : Nat), .str ⟨#[c]⟩])) { s with heap := h2, toks := tk + 1 } :=
      I.turnedNew (ch := [e, it]) (fun b o hb q => (same.2 b (fun z => hb (by simp [z]))).trans (kept b o (fun z => hb (by simp [z])) (fun z => hb (by simp [z])) q)) hf (Nat.le_refl _) new
    have st2 : h2.IsStrIter it (strIterType x) x t (i + 1) := by
      obtain ⟨o, q, r⟩ := st'
      exact ⟨o, (same.2 it (Ne.symm ne)).trans q, r⟩
    refine ⟨.ref s.heap.objs.size, _, J, rfl, ⟨_, c, rfl, I.hok.fresh (Nat.le_refl _), hc, rfl⟩, ⟨⟨.str ⟨#[c]⟩ u, ?_⟩, st2, ne, lt⟩, fun b hb => ?_⟩
    · have step : ((i + 1 : Nat) : Int) = (i : Int) + 1 := by omega
      rw [step]
      exact isE2
    · have bl : b < s.heap.objs.size := by
        rcases (by simpa using hb : b = e ∨ b = it) with rfl | rfl
        · exact el
        · exact il
      rw [upd_ne (Nat.ne_of_lt bl)]
      exact (hf b hb).1
  done := by
    intro X hP hw hK calm i pins s σ H E I hf st stop
    subst hP hw hK
    obtain ⟨⟨old, isE⟩, isI, ne, le⟩ := st
    obtain ⟨f0, f1, f2, f3, f4, f5⟩ := hf it (by simp)
    have quiet : X.A.in1.handled = none := by simpa using I.ok.hd calm
    have ei : i = x.cps.size := Nat.le_antisymm le stop
    rw [ei] at isE isI
    exact wpAny_pyNext_enum_endD (Draws.text quiet it x t) isE isI fun h' ext => ⟨rfl, I.turned (t' := s.toks) (fun b o hb q => ext b o hb q) f0 f1 f3 f4 f5⟩
  self := fun A i s Q E st h => let ⟨⟨_, isE⟩, _⟩ := st; wpAny_pyIter_enum isE h
def iEnumS (ta : TA) : TI := fun σ H R => ta σ H fun vs H1 => ∃ x, vs = [.str x] ∧ R (IteS x) H1
theorem pi_enumS {X : Cx} {e : Expr} {ta : TA} {p pos tpos : Pos} {elts : List Expr} {kk : Nat} (hg : Gl X "enumerate") (hm : X.mg "enumerate" = none) (ha : PA X [e] ta) (hs : starEach [e] X.env = [(false, eval e X.env)] := by rfl) : PI X (.Tuple elts kk tpos) (.Call (.Name "enumerate" p) [e] [] pos) (iEnumS ta) := by
  refine ⟨fun pins s σ H R I hyp => ?_⟩
  refine Call_ (ld_blt I hg hm boot_enumerate (PyProof.Rows.callWith_type1 (thn (ha.run pos pins s σ H _ I hyp) fun us s1 ⟨vs, H1, I1, r1, q1⟩ => ?_) hs rfl))
  obtain ⟨x, rfl, q⟩ := q1
  cases r1 with
  | cons r rr =>
    cases rr
    obtain ⟨t, rfl⟩ := r
    have isNew : ∀ b, b ∈ [s1.heap.objs.size + 1, s1.heap.objs.size] → FpOk X pins H1 b := fun b hb => by
      have le : s1.heap.objs.size ≤ b := by
        rcases (by simpa using hb : b = s1.heap.objs.size + 1 ∨ b = s1.heap.objs.size) with rfl | rfl
        · exact Nat.le_add_right _ _
        · exact Nat.le_refl _
      exact I1.fpOk le (I1.hok.fresh le)
    refine enumS_call fun h' isE isI kept => wpAny_pyIter_enum isE ?_
    exact ⟨s1.heap.objs.size + 1, [s1.heap.objs.size + 1, s1.heap.objs.size], _, _, H1, rfl, I1.kept (t' := s1.toks) kept, turn_enumS (t := t), ⟨⟨.none, isE⟩, isI, Nat.succ_ne_self _, Nat.zero_le _⟩, isNew, q⟩
section
variable {X : Cx} {W : WX} {Z : Ext} {CL : Calls} {ow0 : List Addr} {Hb : Hp} {K : PySem.W.Frag}
theorem itD_enumS {S1 : Hp} {x : Str} : ItD K S1 (IteS x) (enumD (signsD x)) where
  go := fun i H e hi => by
    show i < x.cps.size
    simpa [enumD, signsD] using hi
  stop := fun H e => by simp [enumD, signsD, IteS]
  yld := fun i H v H' ow d no e hd y => by
    obtain ⟨T, c, rfl, hT, hc, rfl⟩ := y
    have hl : i < (signsD x).length := by
      have := (List.getElem?_eq_some_iff.mp hd).1
      simpa [enumD] using this
    have e1 : (signsD x)[i]? = some (.str ⟨#[c]⟩) := by
      unfold signsD
      rw [List.getElem?_map, Array.getElem?_toList, hc]
      rfl
    obtain ⟨x', e2, rfl⟩ := enumD_at hd
    rw [e1] at e2
    cases e2
    exact ⟨Le.new hT, pair_new hT no (.int _) (.str _)⟩
def wEnumS (w : WA) : WI := fun ρ P Ex => w ρ (fun ys => match ys with
  | [y] => match y.rd with
    | some (.str x) => x.length ≤ sizeLine ∧ P (enumD (signsD x))
    | _ => False
  | _ => False) Ex
theorem sim_enumS {elts : List Expr} {kk : Nat} {tpos : Pos} {a : Expr} {wa : WA} {p pos : Pos} (hg : Gl X "enumerate") (hm : X.mg "enumerate" = none) (h : SimA X W Z CL ow0 Hb [a] wa) (hs : starEach [a] X.env = [(false, eval a X.env)] := by rfl) : SimI X W Z CL ow0 Hb (.Tuple elts kk tpos) (.Call (.Name "enumerate" p) [a] [] pos) (wEnumS wa) := by
  intro S ρ σ H ow P Ex R r w g b
  refine PIat.of (pi_enumS hg hm PAat.pa hs) (h S ρ σ H ow _ Ex _ r w (fun ys vs H' p e z q => ?_) b)
  split at p
  · split at p
    · rename_i y x ey
      cases q with
      | cons q1 q2 =>
        cases q2
        exact ⟨x, by rw [q1.str ey], g _ _ H' p.2 e z itD_enumS fun _ => by simpa [enumD, signsD, Str.length] using p.1⟩
    · exact p.elim
  · exact p.elim
end
end Pd

/-! Ph1: harps as data; promises of the defs about harps, and of the drawing helpers. -/
namespace Pd
open PySem PySem.Spec PyProof.Rows L2
def isNum (x : D) : Bool := isIntD x && !isBoolD x
def Φ_is_number : Fs := fun ys P _ => ∃ x, ys = [.d x] ∧ P (.d (.bool (isNum x)))
def isIndex : D → Bool
  | .int i => decide (0 ≤ i)
  | _ => false
def Φ_is_index : Fs := fun ys P _ => ∃ x, ys = [.d x] ∧ P (.d (.bool (isIndex x)))
def isSized (m : Int) : D → Bool
  | .tuple ds => decide ((ds.length : Int) = m)
  | _ => false
def Φ_is_sized : Fs := fun ys P _ => ∃ x, ∃ m : Int, ys = [.d x, .d (.int m)] ∧ P (.d (.bool (isSized m x)))
def isPos : D → Bool
  | .int i => decide (-1 ≤ i) && decide (i ≤ 1)
  | _ => false
def Φ_is_position : Fs := fun ys P _ => ∃ x, ys = [.d x] ∧ P (.d (.bool (isPos x)))
def Φ_is_tuple_of : Fs := fun ys P _ => ∃ x f φ, ys = [.d x, .fn f φ] ∧ ((∃ ds g, x = .tuple ds ∧ (∀ d ∈ ds, ∀ R : D → Prop, R (.bool (g d)) → φ d R) ∧ P (.d (.bool (ds.all g)))) ∨ (isTupleD x = false ∧ P (.d (.bool false))))
def allPos : D → Bool
  | .tuple ds => ds.all isPos
  | _ => false
def Φ_is_setting : Fs := fun ys P _ => ∃ x, ∃ m : Int, ys = [.d (.int m), .d x] ∧ P (.d (.bool (isSized m x && allPos x)))
/-- a harp: its size, its letters (name, base, foot), its strings -/
structure Hrp where
  sz : Int
  rows : List (Str × Int × Int)
  n : Int
  a : Int
  b : Int
def rowD (r : Str × Int × Int) : D := .tuple [.str r.1, .int r.2.1, .int r.2.2]
def Hrp.d (h : Hrp) : D := .tuple [.int h.sz, .tuple (h.rows.map rowD), .int h.n, .int h.a, .int h.b]
structure Hrp.Ok (h : Hrp) : Prop where
  sz0 : 1 ≤ h.sz
  sz1 : h.sz ≤ 1000
  len0 : 2 ≤ h.rows.length
  len1 : h.rows.length ≤ 12
  n0 : 1 ≤ h.n
  n1 : h.n ≤ 100
  base : ∀ r ∈ h.rows, 0 ≤ r.2.1 ∧ r.2.1 ≤ 1000
  foot : ∀ r ∈ h.rows, 0 ≤ r.2.2 ∧ r.2.2 ≤ 1
  name : ∀ r ∈ h.rows, r.1.length ≤ 10 ∧ PyData.strOk r.1 = true
def Hrp.L (h : Hrp) : Int := h.rows.length
def Hrp.row (h : Hrp) (i : Int) : Str × Int × Int := h.rows.getD i.toNat default
def Hrp.opn (h : Hrp) (i : Int) : Int := h.sz * (i / h.L) + (h.row (i % h.L)).2.1
def Hrp.pit (h : Hrp) (ps : List Int) (i : Int) : Int := h.opn i + ps.getD (i % h.L).toNat 0
def Hrp.text (h : Hrp) (i : Int) : Str := (h.row (i % h.L)).1 ++ (Str.ofString "." ++ Str.ofString (toString (i / h.L)))
def inIx (x : D) (n : Int) : Bool := match x with
  | .int i => decide (0 ≤ i) && decide (i < n)
  | _ => false
def noth : Xn := ⟨"Nothing", []⟩
def Φ_letters_many : Fs := fun ys P _ => ∃ h : Hrp, h.Ok ∧ ys = [.d h.d] ∧ P (.d (.int h.L))
def Φ_check_string : Fs := fun ys P Ex => ∃ h : Hrp, ∃ x, h.Ok ∧ ys = [.d h.d, .d x] ∧ ((inIx x h.n = true ∧ P (.d .none)) ∨ (inIx x h.n = false ∧ Ex noth))
def Φ_check_letter : Fs := fun ys P Ex => ∃ h : Hrp, ∃ x, h.Ok ∧ ys = [.d h.d, .d x] ∧ ((inIx x h.L = true ∧ P (.d .none)) ∨ (inIx x h.L = false ∧ Ex noth))
def Φ_letter_of : Fs := fun ys P Ex => ∃ h : Hrp, ∃ x, h.Ok ∧ ys = [.d h.d, .d x] ∧ ((∃ i, x = .int i ∧ 0 ≤ i ∧ i < h.n ∧ P (.d (.int (i % h.L)))) ∨ (inIx x h.n = false ∧ Ex noth))
def Φ_open_pitch : Fs := fun ys P Ex => ∃ h : Hrp, ∃ x, h.Ok ∧ ys = [.d h.d, .d x] ∧ ((∃ i, x = .int i ∧ 0 ≤ i ∧ i < h.n ∧ P (.d (.int (h.opn i)))) ∨ (inIx x h.n = false ∧ Ex noth))
def isSet (h : Hrp) (ps : List Int) : Prop := ps.length = h.rows.length ∧ ∀ p ∈ ps, -1 ≤ p ∧ p ≤ 1
def Φ_pitch_of : Fs := fun ys P Ex => ∃ h : Hrp, ∃ s x, h.Ok ∧ ys = [.d h.d, .d s, .d x] ∧ (((isSized h.L s && allPos s) = false ∧ Ex noth) ∨ (∃ ps : List Int, s = .tuple (ps.map .int) ∧ isSet h ps ∧ ((∃ i, x = .int i ∧ 0 ≤ i ∧ i < h.n ∧ P (.d (.int (h.pit ps i)))) ∨ (inIx x h.n = false ∧ Ex noth))))
def Φ_pitches_of : Fs := fun ys P _ => ∃ h : Hrp, ∃ ps : List Int, h.Ok ∧ isSet h ps ∧ ys = [.d h.d, .d (.tuple (ps.map .int))] ∧ P (.d (.tuple ((upto h.n).map fun i => .int (h.pit ps i))))
def Hrp.strs (h : Hrp) (l : Int) : List Int := (upto h.n).filter fun i => decide (i % h.L = l)
def Φ_strings_of : Fs := fun ys P Ex => ∃ h : Hrp, ∃ x, h.Ok ∧ ys = [.d h.d, .d x] ∧ ((∃ l, x = .int l ∧ 0 ≤ l ∧ l < h.L ∧ P (.d (.tuple ((h.strs l).map .int)))) ∨ (inIx x h.L = false ∧ Ex noth))
def Φ_foot_of : Fs := fun ys P Ex => ∃ h : Hrp, ∃ x, h.Ok ∧ ys = [.d h.d, .d x] ∧ ((∃ l, x = .int l ∧ 0 ≤ l ∧ l < h.L ∧ P (.d (.int (h.row l).2.2))) ∨ (inIx x h.L = false ∧ Ex noth))
def Hrp.feet (h : Hrp) (f : Int) : List Int := (upto h.L).filter fun l => decide ((h.row l).2.2 = f)
def Φ_letters_of_foot : Fs := fun ys P _ => ∃ h : Hrp, ∃ f, h.Ok ∧ ys = [.d h.d, .d (.int f)] ∧ P (.d (.tuple ((h.feet f).map .int)))
def Φ_string_text : Fs := fun ys P Ex => ∃ h : Hrp, ∃ x, h.Ok ∧ ys = [.d h.d, .d x] ∧ ((∃ i, x = .int i ∧ 0 ≤ i ∧ i < h.n ∧ P (.d (.str (h.text i)))) ∨ (inIx x h.n = false ∧ Ex noth))
def ixD : Option Int → D
  | some i => .int i
  | none => .none
def Hrp.texts (h : Hrp) : List Str := (upto h.n).map h.text
def Hrp.names (h : Hrp) : List Str := h.rows.map (·.1)
def Φ_string_named : Fs := fun ys P _ => ∃ h : Hrp, ∃ w : Str, h.Ok ∧ ys = [.d h.d, .d (.str w)] ∧ P (.d (ixD ((upto h.n).find? fun i => h.text i == w)))
def Φ_letter_named : Fs := fun ys P _ => ∃ h : Hrp, ∃ w : Str, h.Ok ∧ ys = [.d h.d, .d (.str w)] ∧ P (.d (ixD ((upto h.L).find? fun i => (h.row i).1 == w)))
def Φ_pitch_class : Fs := fun ys P _ => ∃ h : Hrp, ∃ p : Int, h.Ok ∧ ys = [.d h.d, .d (.int p)] ∧ P (.d (.int (p % h.sz)))
def Φ_straight : Fs := fun ys P _ => ∃ h : Hrp, h.Ok ∧ ys = [.d h.d] ∧ P (.d (.tuple (List.replicate h.rows.length (.int 0))))
/-- all settings of so many letters, in order -/
def sets : Nat → List (List Int)
  | 0 => [[]]
  | n + 1 => (sets n).flatMap fun r => [r ++ [-1], r ++ [0], r ++ [1]]
def setsD (n : Nat) : D := .list ((sets n).map fun r => .tuple (r.map .int))
def Φ_settings : Fs := fun ys P _ => ∃ h : Hrp, h.Ok ∧ h.rows.length ≤ 4 ∧ ys = [.d h.d] ∧ P (.d (setsD h.rows.length))
def Φ__law_take : Fs := fun ys P _ => ∃ m : Int, ys = [.bag, .d (.int m)] ∧ 0 < m ∧ m < 1073741824 ∧ ∀ v, 0 ≤ v → v < m → P (.d (.int v))
def Φ__law_some : Fs := fun ys P _ => ∃ xs : List D, ys = [.bag, .d (.list xs)] ∧ xs ≠ [] ∧ xs.length < 1073741824 ∧ ∀ x ∈ xs, P (.d x)
def Φ__law_mixed : Fs := fun ys P _ => ∃ xs : List D, ys = [.bag, .d (.list xs)] ∧ xs.length < 1000000 ∧ ∀ zs : List D, zs.Perm xs → P (.own zs)
def Φ__law_alike : Fs := fun ys P _ => ∃ a : D, ys = [.d a, .d a] ∧ (∃ n k, n ≤ 2 ^ 20 ∧ k ≤ 99 ∧ Sm n k a) ∧ P (.d (.bool true))
def nameS : List Str := ["ce", "de", "eh", "ef", "ge", "ah", "bee", "hand", "lefty"]
/-- a drawn harp -/
structure Hrp.Drawn (h : Hrp) (m s : Int) : Prop where
  ok : h.Ok
  sz : h.sz ≤ 12
  len : (h.rows.length : Int) ≤ m
  n : h.n ≤ s
  asc : (h.rows.map fun r => r.2.1).Pairwise (· < ·)
  top : ∀ r ∈ h.rows, r.2.1 < h.sz
  nod : (h.rows.map (·.1)).Nodup
  nms : ∀ r ∈ h.rows, r.1 ∈ nameS
  a0 : 1 ≤ h.a
  a1 : h.a ≤ 3
  b0 : 0 ≤ h.b
  b1 : h.b ≤ 8
def Φ__law_harp : Fs := fun ys P _ => ∃ m s : Int, ys = [.bag, .d (.int m), .d (.int s)] ∧ 2 ≤ m ∧ m ≤ 5 ∧ 1 ≤ s ∧ s ≤ 100 ∧ ∀ h : Hrp, h.Drawn m s → P (.d h.d)
def Φ__law_letter : Fs := fun ys P _ => ∃ h : Hrp, ∃ i : Int, h.Ok ∧ ys = [.d h.d, .d (.int i)] ∧ 0 ≤ i ∧ i < h.n ∧ P (.d (.int (i % h.L)))
def Φ__law_open : Fs := fun ys P _ => ∃ h : Hrp, ∃ i : Int, h.Ok ∧ ys = [.d h.d, .d (.int i)] ∧ 0 ≤ i ∧ i < h.n ∧ P (.d (.int (h.opn i)))
def Φ__law_pitch : Fs := fun ys P _ => ∃ h : Hrp, ∃ ps : List Int, ∃ i : Int, h.Ok ∧ isSet h ps ∧ ys = [.d h.d, .d (.tuple (ps.map .int)), .d (.int i)] ∧ 0 ≤ i ∧ i < h.n ∧ P (.d (.int (h.pit ps i)))
def Φ__law_settings : Fs := fun ys P _ => ∃ h : Hrp, h.Ok ∧ h.rows.length ≤ 4 ∧ ys = [.d h.d] ∧ P (.d (setsD h.rows.length))
def Φ__law_setting : Fs := fun ys P _ => ∃ h : Hrp, h.Ok ∧ ys = [.bag, .d h.d] ∧ ∀ ps, isSet h ps → P (.d (.tuple (ps.map .int)))
def Φ__law_string_texts : Fs := fun ys P _ => ∃ h : Hrp, h.Ok ∧ ys = [.d h.d] ∧ P (.d (.list (h.texts.map .str)))
def φ_is_position : Fn1 := fun d R => R (.bool (isPos d))
theorem φ_is_position_ok : ∀ d R, φ_is_position d R → Φ_is_position [.d d] (fun y => match y with
  | .d x => R x
  | _ => False) (fun _ => False) := fun d R h => ⟨d, rfl, h⟩
section
variable {E : En} {H : Hrp} {ps : List Int} {i : Int}
theorem inIx_true {x : D} {n : Int} (h : inIx x n = true) : ∃ i, x = .int i ∧ 0 ≤ i ∧ i < n := by
  cases x with
  | int i =>
    simp only [inIx, Bool.and_eq_true, decide_eq_true_eq] at h
    exact ⟨i, rfl, h.1, h.2⟩
  | _ => cases h
theorem inIx_int {i n : Int} (h0 : 0 ≤ i) (h1 : i < n) : inIx (.int i) n = true := by simp [inIx, h0, h1]
theorem inIx_false {x : D} {n : Int} (h : inIx x n = false) : isIndex x = false ∨ ∃ i, x = .int i ∧ 0 ≤ i ∧ n ≤ i := by
  cases x with
  | int i =>
    by_cases h0 : 0 ≤ i
    · refine .inr ⟨i, rfl, h0, ?_⟩
      simp only [inIx, h0, decide_true, Bool.true_and, decide_eq_false_iff_not] at h
      omega
    · exact .inl (by simp [isIndex, h0])
  | _ => exact .inl rfl
theorem isIndex_int {i : Int} (h : 0 ≤ i) : isIndex (.int i) = true := by simp [isIndex, h]
theorem Hrp.Ok.L0 {h : Hrp} (ok : h.Ok) : 2 ≤ h.L := by have := ok.len0; unfold Hrp.L; omega
theorem Hrp.Ok.L1 {h : Hrp} (ok : h.Ok) : h.L ≤ 12 := by have := ok.len1; unfold Hrp.L; omega
theorem Hrp.Ok.md0 {h : Hrp} (ok : h.Ok) (i : Int) : 0 ≤ i % h.L := Int.emod_nonneg _ (by have := ok.L0; omega)
theorem Hrp.Ok.md1 {h : Hrp} (ok : h.Ok) (i : Int) : i % h.L < h.L := Int.emod_lt_of_pos _ (by have := ok.L0; omega)
theorem Hrp.at_ {h : Hrp} {j : Int} (h0 : 0 ≤ j) (h1 : j < h.L) : atI (h.rows.map rowD) j = some (rowD (h.row j)) := atI_map h0 h1
theorem Hrp.row_mem {h : Hrp} {j : Int} (h0 : 0 ≤ j) (h1 : j < h.L) : h.row j ∈ h.rows := by
  unfold Hrp.L at h1
  have h3 : j.toNat < h.rows.length := by omega
  unfold Hrp.row
  have e : h.rows.getD j.toNat default = h.rows[j.toNat] := by simp [List.getD, h3]
  rw [e]
  exact List.getElem_mem h3
theorem ix_row {H : Hrp} {j : Int} {P : Val → Prop} (h0 : 0 ≤ j) (h1 : j < H.L) (h : P (.d (rowD (H.row j)))) : opIx (.d (.tuple (H.rows.map rowD))) (.d (.int j)) P := by
  show match atI (H.rows.map rowD) j with
    | some d => P (.d d)
    | none => False
  rw [Hrp.at_ h0 h1]
  exact h
theorem ix_rows {H : Hrp} {P : Val → Prop} (h : P (.d (.tuple (H.rows.map rowD)))) : opIx (.d H.d) (.d (.int 1)) P := h
theorem isSized_set {H : Hrp} {ps : List Int} (s : isSet H ps) : (isSized H.L (.tuple (ps.map .int)) && allPos (.tuple (ps.map .int))) = true := by
  have e : ((ps.map PyData.int).length : Int) = H.L := by rw [List.length_map, s.1]; rfl
  simp only [isSized, allPos, e, decide_true, Bool.true_and, List.all_map, List.all_eq_true, Function.comp]
  intro p hp
  have := s.2 p hp
  simp [isPos, this.1, this.2]
theorem ix_set {H : Hrp} {ps : List Int} {j : Int} {P : Val → Prop} (s : isSet H ps) (h0 : 0 ≤ j) (h1 : j < H.L) (h : P (.d (.int (ps.getD j.toNat 0)))) : opIx (.d (.tuple (ps.map .int))) (.d (.int j)) P := by
  show match atI (ps.map PyData.int) j with
    | some d => P (.d d)
    | none => False
  have hj : j < ps.length := by rw [s.1]; exact h1
  have e : atI (ps.map PyData.int) j = some (.int (ps.getD j.toNat 0)) := by
    unfold atI ixN
    have h2 : j < ((ps.map PyData.int).length : Int) := by rw [List.length_map]; exact hj
    rw [if_pos h0, if_pos h2]
    have h3 : j.toNat < ps.length := by omega
    simp [List.getD, h3]
  rw [e]
  exact h
theorem flat_one (n : Nat) (d : D) : (List.replicate n [d]).flatten = List.replicate n d := by
  induction n with
  | zero => rfl
  | succ n ih => rw [List.replicate_succ, List.flatten_cons, ih, List.replicate_succ]; rfl
theorem rg_step {a b c : Int} (ha : 0 ≤ a) (ha1 : a ≤ 1000) (hb : 0 ≤ b) (hb1 : b ≤ 1000) (hc : 1 ≤ c) (hc1 : c ≤ 12) : RgC a b c (if a < b then ((b - a - 1) / c + 1).toNat else 0) := by
  have hs : Builtin.Range.rangeSize a b c = ((if a < b then ((b - a - 1) / c + 1).toNat else 0 : Nat) : Int) := by
    unfold Builtin.Range.rangeSize
    rw [if_pos (by omega)]
    split
    · have := Int.ediv_nonneg (show 0 ≤ b - a - 1 by omega) (show 0 ≤ c by omega)
      omega
    · rfl
  have hd : a < b → 0 ≤ (b - a - 1) / c ∧ (b - a - 1) / c ≤ 1000 := fun h => by
    refine ⟨Int.ediv_nonneg (by omega) (by omega), ?_⟩
    have := Int.ediv_le_self c (show 0 ≤ b - a - 1 by omega)
    omega
  refine ⟨by omega, by omega, ?_, hs⟩
  unfold Builtin.Range.small
  rw [hs]
  simp only [Builtin.Range.rangeFitsLong, Bool.and_eq_true, Bool.or_eq_true, decide_eq_true_eq, beq_iff_eq, show c > 0 by omega, if_true]
  split
  · have := hd (by assumption)
    have h12 : c = 1 ∨ c = 2 ∨ c = 3 ∨ c = 4 ∨ c = 5 ∨ c = 6 ∨ c = 7 ∨ c = 8 ∨ c = 9 ∨ c = 10 ∨ c = 11 ∨ c = 12 := by omega
    rcases h12 with rfl | rfl | rfl | rfl | rfl | rfl | rfl | rfl | rfl | rfl | rfl | rfl <;> omega
  · omega
theorem stepD_succ (i c : Int) (n : Nat) : stepD i c (n + 1) = stepD i c n ++ [.int (i + n * c)] := by
  unfold stepD
  rw [List.range_succ, List.map_append]
  rfl
theorem strs_step {L l : Int} (h0 : 0 ≤ l) (h1 : l < L) (hL : L ≤ 12) (hL0 : 2 ≤ L) : ∀ n : Nat, stepD l L (if l < (n : Int) then (((n : Int) - l - 1) / L + 1).toNat else 0) = ((upto n).filter fun i => decide (i % L = l)).map .int
  | 0 => by
    rw [if_neg (by omega)]
    rfl
  | n + 1 => by
    have ih := strs_step h0 h1 hL hL0 n
    have e : (((n + 1 : Nat) : Int)) = (n : Int) + 1 := by omega
    rw [e, upto_succ, List.filter_append, List.map_append, ← ih]
    have key : ((n : Int) % L = l → (if l < (n : Int) + 1 then (((n : Int) + 1 - l - 1) / L + 1).toNat else 0) = (if l < (n : Int) then (((n : Int) - l - 1) / L + 1).toNat else 0) + 1 ∧ l + ((if l < (n : Int) then (((n : Int) - l - 1) / L + 1).toNat else 0 : Nat) : Int) * L = n) ∧
      ((n : Int) % L ≠ l → (if l < (n : Int) + 1 then (((n : Int) + 1 - l - 1) / L + 1).toNat else 0) = (if l < (n : Int) then (((n : Int) - l - 1) / L + 1).toNat else 0)) := by
      have h12 : L = 2 ∨ L = 3 ∨ L = 4 ∨ L = 5 ∨ L = 6 ∨ L = 7 ∨ L = 8 ∨ L = 9 ∨ L = 10 ∨ L = 11 ∨ L = 12 := by omega
      rcases h12 with rfl | rfl | rfl | rfl | rfl | rfl | rfl | rfl | rfl | rfl | rfl <;> (constructor <;> intro hm <;> split <;> split <;> omega)
    by_cases hm : (n : Int) % L = l
    · rw [(key.1 hm).1, stepD_succ, (key.1 hm).2]
      simp [hm]
    · rw [key.2 hm]
      simp [hm]
theorem rowD_eq (r : Str × Int × Int) : rowD r = .tuple [.str r.1, .int r.2.1, .int r.2.2] := rfl
theorem enum_rows (H : Hrp) : enumD (H.rows.map rowD) = (upto H.L).map fun i => .tuple [.int i, rowD (H.row i)] := enum_upto H.rows rowD
theorem int_dp (i : Int) (d : D) : min (PyData.int i).depth d.depth ≤ 100 := by simp [PyData.depth]
theorem log_small {i : Int} (h0 : 0 ≤ i) (h1 : i < 1000000) : i.natAbs.log2 < 1920 := by
  by_cases z : i.natAbs = 0
  · rw [z]; decide
  · have : i.natAbs.log2 < 40 := (Nat.log2_lt z).mpr (by omega)
    omega
theorem div_small {H : Hrp} (ok : H.Ok) {i : Int} (h0 : 0 ≤ i) (h1 : i < H.n) : 0 ≤ i / H.L ∧ i / H.L < 100 := by
  have L0 := ok.L0
  have n1 := ok.n1
  refine ⟨Int.ediv_nonneg h0 (by omega), ?_⟩
  have := Int.ediv_le_self H.L h0
  omega
theorem short_all : ∀ k : Nat, k < 100 → (Str.ofString (toString (k : Int))).length ≤ 2 ∧ PyData.strOk (Str.ofString (toString (k : Int))) = true := by decide +kernel
theorem short_int {i : Int} (h0 : 0 ≤ i) (h1 : i < 100) : (Str.ofString (toString i)).length ≤ 2 ∧ PyData.strOk (Str.ofString (toString i)) = true := by
  have := short_all i.toNat (by omega)
  rwa [show ((i.toNat : Nat) : Int) = i by omega] at this
theorem len_app (a b : Str) : (a ++ b).length = a.length + b.length := strLen_append a b
theorem ofs_int (i : Int) : (toString i : Str) = Str.ofString (toString i) := rfl
theorem app_assoc (a b c : Str) : a ++ b ++ c = a ++ (b ++ c) := Str.append_assoc a b c
theorem app_nil (a : Str) : Str.empty ++ a = a := Str.empty_append a
theorem sets_len : ∀ n : Nat, (sets n).length = 3 ^ n
  | 0 => rfl
  | n + 1 => by
    show ((sets n).flatMap fun r => [r ++ [-1], r ++ [0], r ++ [1]]).length = _
    rw [Nat.pow_succ, ← sets_len n]
    generalize sets n = l
    induction l with
    | nil => rfl
    | cons a l ih => rw [List.flatMap_cons, List.length_append, ih, List.length_cons]; simp; omega
def setD (r : List Int) : D := .tuple (r.map .int)
def threeD (r : List Int) : List D := [setD (r ++ [-1]), setD (r ++ [0]), setD (r ++ [1])]
theorem setsD_eq (n : Nat) : setsD n = .list ((sets n).map setD) := rfl
theorem sets_flat (n : Nat) : (sets n).flatMap threeD = (sets (n + 1)).map setD := by
  show _ = ((sets n).flatMap fun r => [r ++ [-1], r ++ [0], r ++ [1]]).map setD
  rw [List.map_flatMap]
  rfl
theorem set_len : ∀ (n : Nat) (r : List Int), r ∈ sets n → r.length = n
  | 0, r, h => by
    rw [List.mem_singleton.mp h]
    rfl
  | n + 1, r, h => by
    obtain ⟨q, hq, hr⟩ := List.mem_flatMap.mp h
    have := set_len n q hq
    simp only [List.mem_cons, List.not_mem_nil, or_false] at hr
    rcases hr with rfl | rfl | rfl <;> simp [this]
theorem pow_le {n : Nat} (h : n ≤ 4) : 3 ^ n ≤ 81 := by
  have : n = 0 ∨ n = 1 ∨ n = 2 ∨ n = 3 ∨ n = 4 := by omega
  rcases this with rfl | rfl | rfl | rfl | rfl <;> decide
theorem keeps_app : ∀ (xs : List D) (x : D), keeps (xs.map Val.d ++ [Val.d x]) = some (xs ++ [x])
  | [], x => rfl
  | y :: ys, x => by
    show (match (Val.d y).kp, keeps (ys.map Val.d ++ [Val.d x]) with
      | some d, some ds => some (d :: ds)
      | _, _ => none) = _
    rw [keeps_app ys x]
    rfl
theorem nameS_ok : ∀ s ∈ nameS, s.length ≤ 10 ∧ PyData.strOk s = true := by decide +kernel
abbrev O := Option Val
theorem szl {n : Nat} (h : n ≤ 1000) : n ≤ sizeLine := by rw [sizeLine_eq]; omega
theorem szl1 {n : Nat} (h : n ≤ 1000) : n < sizeLine := by rw [sizeLine_eq]; omega
theorem set_rows {H : Hrp} {ps : List Int} (ok : H.Ok) (st : isSet H ps) : 2 ≤ ps.length ∧ ps.length ≤ 12 := by
  have := ok.len0
  have := ok.len1
  have := st.1
  omega
theorem opn_le (ok : H.Ok) (h0 : 0 ≤ i) (h1 : i < H.n) : 0 ≤ H.opn i ∧ H.opn i ≤ 101000 := by
  obtain ⟨q0, q1⟩ := div_small ok h0 h1
  have b := ok.base _ (Hrp.row_mem (ok.md0 i) (ok.md1 i))
  have s0 := ok.sz0
  have s1 := ok.sz1
  have m0 : 0 ≤ H.sz * (i / H.L) := Int.mul_nonneg (by omega) q0
  have m1 : H.sz * (i / H.L) ≤ 1000 * 100 := Int.mul_le_mul s1 (by omega) q0 (by decide)
  unfold Hrp.opn
  omega
theorem pit_le (ok : H.Ok) (st : isSet H ps) (h0 : 0 ≤ i) (h1 : i < H.n) : -1 ≤ H.pit ps i ∧ H.pit ps i ≤ 101001 := by
  have a := opn_le ok h0 h1
  have b0 := ok.md0 i
  have b1 := ok.md1 i
  have e := st.1
  unfold Hrp.L at b1
  have h3 : (i % H.L).toNat < ps.length := by unfold Hrp.L at *; omega
  have e2 : ps.getD (i % H.L).toNat 0 = ps[(i % H.L).toNat] := by simp [List.getD, h3]
  have b := st.2 _ (List.getElem_mem h3)
  unfold Hrp.pit
  rw [e2]
  omega
theorem strOk_iff {s : Str} : PyData.strOk s = true ↔ ∀ c ∈ s.cps.toList, c < 0x110000 := by
  unfold PyData.strOk
  rw [← Array.all_toList, List.all_eq_true]
  exact ⟨fun h c m => of_decide_eq_true (h c m), fun h c m => decide_eq_true (h c m)⟩
theorem strOk_app {a b : Str} (ha : PyData.strOk a = true) (hb : PyData.strOk b = true) : PyData.strOk (a ++ b) = true := by
  rw [strOk_iff] at *
  intro c m
  have e : (a ++ b).cps = a.cps ++ b.cps := rfl
  rw [e, Array.toList_append] at m
  rcases List.mem_append.mp m with m | m
  · exact ha c m
  · exact hb c m
theorem strOk_wide {a : Str} (h : PyData.strOk a = true) : a.cps.toList.all (fun c => decide (c < 16 ^ 8)) = true := by
  rw [strOk_iff] at h
  rw [List.all_eq_true]
  intro c m
  have := h c m
  simp
  omega
theorem text_ok {H : Hrp} {i : Int} (ok : H.Ok) (h0 : 0 ≤ i) (h1 : i < H.n) : (H.text i).length ≤ 13 ∧ PyData.strOk (H.text i) = true := by
  obtain ⟨q0, q1⟩ := div_small ok h0 h1
  have nm := ok.name _ (Hrp.row_mem (ok.md0 i) (ok.md1 i))
  have st := short_int q0 q1
  unfold Hrp.text
  refine ⟨?_, strOk_app nm.2 (strOk_app (by decide +kernel) st.2)⟩
  rw [len_app, len_app]
  show (H.row (i % H.L)).1.length + (1 + _) ≤ _
  omega
theorem shaped_str {s : Str} (h : PyData.strOk s = true) : SeqAt.shaped (.str s) = true := by
  simp [SeqAt.shaped, PyData.canLay0, h, PyData.depth]
theorem lay_strs : ∀ l : List Str, (∀ s ∈ l, PyData.strOk s = true) → PyData.canLayAll0 (l.map .str) = true
  | [], _ => rfl
  | s :: l, h => by
    rw [List.map_cons, PyData.canLayAll0, PyData.canLay0, h s List.mem_cons_self, lay_strs l fun x m => h x (List.mem_cons_of_mem _ m)]
    rfl
theorem depth_strs : ∀ l : List Str, PyData.depthAll (l.map .str) = 0
  | [] => rfl
  | s :: l => by rw [List.map_cons, PyData.depthAll, depth_strs l]; rfl
theorem shaped_strs {l : List Str} (h : ∀ s ∈ l, PyData.strOk s = true) : SeqAt.shaped (.list (l.map .str)) = true := by
  have e := lay_strs l h
  have d := depth_strs l
  simp [SeqAt.shaped, PyData.canLay0, PyData.depth, e, d]
theorem any_word (g : Int → Str) (n : Int) (w : Str) : ((upto n).map fun i => PyData.str (g i)).any (fun y => PyData.eqv y (.str w)) = ((upto n).find? fun i => g i == w).isSome := by
  rw [Bool.eq_iff_iff, List.any_map, List.any_eq_true, List.find?_isSome]
  simp only [Function.comp, eqv_strs]
theorem first_word (g : Int → Str) (n : Int) (w : Str) : firstAt ((upto n).map fun i => PyData.str (g i)) (.str w) = ((upto n).find? fun i => g i == w).map Int.toNat := by
  unfold firstAt
  rw [List.findIdx?_map]
  have e : ((fun z => PyData.eqv z (.str w)) ∘ fun i => PyData.str (g i)) = fun i => g i == w := by
    funext i
    exact eqv_strs _ _
  rw [e, find_upto]
theorem shaped_upto {g : Int → Str} {n : Int} (hg : ∀ i, 0 ≤ i → i < n → PyData.strOk (g i) = true) : SeqAt.shaped (.list ((upto n).map fun i => PyData.str (g i))) = true := by
  have := shaped_strs (l := (upto n).map g) fun s hs => by
    obtain ⟨j, hj, rfl⟩ := List.mem_map.mp hs
    exact hg j (mem_count hj).1 (mem_count hj).2
  rwa [List.map_map] at this
theorem names_eq (H : Hrp) : (H.rows.map fun r => PyData.str r.1) = (upto H.L).map fun i => .str (H.row i).1 := map_upto H.rows fun r => PyData.str r.1
theorem texts_eq (H : Hrp) : H.texts.map PyData.str = (upto H.n).map fun i => .str (H.text i) := by
  unfold Hrp.texts
  rw [List.map_map]
  rfl
theorem ixD_sm {n : Int} {p : Int → Bool} (hn : n ≤ 100) : Sm 40 0 (ixD ((upto n).find? p)) := by
  cases e : (upto n).find? p with
  | none => exact Sm.none.mono (by decide) (by decide)
  | some i =>
    have m := find_some_upto e
    exact Sm.int (by omega) (by omega)
theorem getD_upto {n j : Int} (h0 : 0 ≤ j) (h1 : j < n) : (upto n).getD j.toNat default = j := by
  have h3 : j.toNat < (upto n).length := by rw [upto_len]; omega
  rw [List.getD_eq_getElem?_getD, List.getElem?_eq_getElem h3]
  simp [upto]
  omega
theorem at_upto {n j : Int} (f : Int → D) (h0 : 0 ≤ j) (h1 : j < n) : atI ((upto n).map f) j = some (f j) := by
  rw [atI_map h0 (by rw [upto_len]; omega), getD_upto h0 h1]
theorem ix_list {xs : List D} {j : Int} {d : D} {P : Val → Prop} (e : atI xs j = some d) (h : P (.d d)) : opIx (.d (.list xs)) (.d (.int j)) P := by
  show match atI xs j with
    | some d => P (.d d)
    | none => False
  rw [e]
  exact h
theorem strOk_cut {z : Str} (lo hi : Option Int) (h : PyData.strOk z = true) : PyData.strOk (cutS z lo hi) = true := by
  rw [strOk_iff] at *
  intro c m
  have m : c ∈ ((z.cps.toList.drop (HT.sIx z.length 0 lo)).take (HT.sIx z.length z.length hi - HT.sIx z.length 0 lo)) := by simpa [cutS] using m
  exact h c (List.mem_of_mem_drop (List.mem_of_mem_take m))
theorem sets_rng : ∀ (n : Nat) (r : List Int), r ∈ sets n → ∀ p ∈ r, -1 ≤ p ∧ p ≤ 1
  | 0, r, h, p, hp => by
    rw [List.mem_singleton.mp h] at hp
    cases hp
  | n + 1, r, h, p, hp => by
    obtain ⟨q, hq, hr⟩ := List.mem_flatMap.mp h
    have ih := sets_rng n q hq
    simp only [List.mem_cons, List.not_mem_nil, or_false] at hr
    rcases hr with rfl | rfl | rfl
    all_goals
      rcases List.mem_append.mp hp with hp | hp
      · exact ih p hp
      · rw [List.mem_singleton.mp hp]; decide
theorem asc_eq : ∀ {l m : List Int}, l.Pairwise (· < ·) → m.Pairwise (· < ·) → (∀ k, k ∈ l ↔ k ∈ m) → l = m
  | [], [], _, _, _ => rfl
  | [], b :: m, _, _, h => absurd ((h b).mpr List.mem_cons_self) (by simp)
  | a :: l, [], _, _, h => absurd ((h a).mp List.mem_cons_self) (by simp)
  | a :: l, b :: m, p, q, h => by
    obtain ⟨p1, p2⟩ := List.pairwise_cons.mp p
    obtain ⟨q1, q2⟩ := List.pairwise_cons.mp q
    have e : a = b := by
      rcases List.mem_cons.mp ((h a).mp List.mem_cons_self) with e | m1
      · exact e
      · rcases List.mem_cons.mp ((h b).mpr List.mem_cons_self) with e | m2
        · exact e.symm
        · have := q1 a m1
          have := p1 b m2
          omega
    subst e
    refine congrArg _ (asc_eq p2 q2 fun k => ⟨fun hk => ?_, fun hk => ?_⟩)
    · rcases List.mem_cons.mp ((h k).mp (List.mem_cons_of_mem _ hk)) with e | m1
      · have := p1 k hk
        omega
      · exact m1
    · rcases List.mem_cons.mp ((h k).mpr (List.mem_cons_of_mem _ hk)) with e | m1
      · have := q1 k hk
        omega
      · exact m1
theorem base_lt {m s : Int} (d : H.Drawn m s) {x y : Int} (h0 : 0 ≤ x) (h1 : x < y) (h2 : y < H.L) : (H.row x).2.1 < (H.row y).2.1 := by
  unfold Hrp.L at h2
  have hx : x.toNat < H.rows.length := by omega
  have hy : y.toNat < H.rows.length := by omega
  have p := List.pairwise_iff_getElem.mp d.asc x.toNat y.toNat (by simpa using hx) (by simpa using hy) (by omega)
  have ex : H.row x = H.rows[x.toNat] := by simp [Hrp.row, List.getD, hx]
  have ey : H.row y = H.rows[y.toNat] := by simp [Hrp.row, List.getD, hy]
  rw [ex, ey]
  simpa using p
theorem opn_lt {m s : Int} (d : H.Drawn m s) {x y : Int} (h0 : 0 ≤ x) (h1 : x < y) : H.opn x < H.opn y := by
  have ok := d.ok
  have L0 := ok.L0
  have s0 := ok.sz0
  have ex := Int.mul_ediv_add_emod x H.L
  have ey := Int.mul_ediv_add_emod y H.L
  have mx0 := ok.md0 x
  have mx1 := ok.md1 x
  have my0 := ok.md0 y
  have my1 := ok.md1 y
  have q : x / H.L ≤ y / H.L := Int.ediv_le_ediv (by omega) (by omega)
  unfold Hrp.opn
  by_cases e : x / H.L = y / H.L
  · rw [e] at ex ⊢
    have := base_lt d mx0 (show x % H.L < y % H.L by omega) my1
    omega
  · have q1 : x / H.L + 1 ≤ y / H.L := by omega
    have m1 : H.sz * (x / H.L + 1) ≤ H.sz * (y / H.L) := Int.mul_le_mul_of_nonneg_left q1 (by omega)
    rw [Int.mul_add, Int.mul_one] at m1
    have t := d.top _ (Hrp.row_mem mx0 mx1)
    have b := (ok.base _ (Hrp.row_mem my0 my1)).1
    omega
def opI (H : Hrp) : List Int := (upto H.n).map H.opn
theorem upto_asc (n : Int) : (upto n).Pairwise (· < ·) := by
  unfold upto
  refine List.Pairwise.map _ (fun a b h => ?_) List.pairwise_lt_range
  omega
theorem opI_asc {m s : Int} (d : H.Drawn m s) : (opI H).Pairwise (· < ·) := by
  unfold opI
  rw [List.pairwise_map]
  refine (List.Pairwise.and_mem.mp (upto_asc H.n)).imp fun {a b} h => ?_
  exact opn_lt d (mem_count h.1).1 h.2.2
theorem opI_eq (H : Hrp) : ((upto H.n).map fun i => PyData.int (H.opn i)) = (opI H).map .int := by
  unfold opI
  rw [List.map_map]
  rfl
end
end Pd

/-! Ph2: notes, scores, drawn parts as data. -/
namespace Pd
open PySem PySem.Spec PyProof.Rows L2
abbrev Nt := Int × Int × Int
def ntD (n : Nt) : D := .tuple [.int n.1, .int n.2.1, .int n.2.2]
def scoD (t : Int) (ns : List Nt) : D := .tuple [.int t, .tuple (ns.map ntD)]
def partD (first ss : List Int) (st : List Nt) : D := .tuple [.tuple (first.map .int), .tuple (ss.map .int), .tuple (st.map ntD)]
def ltN (a b : Nt) : Bool := decide (a.1 < b.1) || (!decide (b.1 < a.1) && (decide (a.2.1 < b.2.1) || (!decide (b.2.1 < a.2.1) && decide (a.2.2 < b.2.2))))
theorem dataLt_nt (a b : Nt) : PySem.W.dataLt (ntD a) (ntD b) = ltN a b := by
  simp [PySem.W.dataLt, ntD, PySem.W.keyToks, PySem.W.keyToksAll, PyProof.Rows.lexLt, PyProof.Rows.itemOrd, PyProof.Rows.itemLt, ltN]
def rowD2 (r : Nt × Int) : D := .tuple [ntD r.1, .int r.2]
theorem dataLt_row (a b : Nt × Int) : PySem.W.dataLt (rowD2 a) (rowD2 b) = (ltN a.1 b.1 || (!ltN b.1 a.1 && decide (a.2 < b.2))) := by
  simp [PySem.W.dataLt, rowD2, ntD, PySem.W.keyToks, PySem.W.keyToksAll, PyProof.Rows.lexLt, PyProof.Rows.itemOrd, PyProof.Rows.itemLt, ltN]
  rw [Bool.eq_iff_iff]
  simp only [Bool.or_eq_true, Bool.and_eq_true, Bool.not_eq_true', decide_eq_true_eq, decide_eq_false_iff_not]
  omega
theorem srt_asc (xs : List D) : (srt xs).Pairwise fun a b => PySem.W.dataLt b a = false := by
  have t := PySem.W.sortLe_total (PyProof.Rows.listOrd PyProof.Rows.itemOrd) false (fun d : D => PySem.W.keyToks d)
  have s := List.pairwise_mergeSort (le := PySem.W.dataLe false (id : D → D)) (fun a b c => t.trans a b c) (fun a b => by rw [Bool.or_eq_true]; exact t.total a b) xs
  refine s.imp fun {a b} h => ?_
  have h' : (!PySem.W.dataLt b a) = true := h
  simpa using h'
theorem srt_perm (xs : List D) : (srt xs).Perm xs := List.mergeSort_perm xs _
theorem ltN_iff {a b : Nt} : ltN a b = true ↔ a.1 < b.1 ∨ (a.1 = b.1 ∧ (a.2.1 < b.2.1 ∨ (a.2.1 = b.2.1 ∧ a.2.2 < b.2.2))) := by
  unfold ltN
  simp only [Bool.or_eq_true, Bool.and_eq_true, Bool.not_eq_true', decide_eq_true_eq, decide_eq_false_iff_not]
  omega
theorem ltN_no {a b : Nt} (h : ltN b a = false) : ltN a b = true ∨ a = b := by
  have h' : ¬ ltN b a = true := by rw [h]; decide
  rw [ltN_iff] at h' ⊢
  obtain ⟨a1, a2, a3⟩ := a
  obtain ⟨b1, b2, b3⟩ := b
  simp only [Prod.mk.injEq]
  simp only at h'
  omega
theorem alike_nt (a b : Nt) : PySem.W.alike (ntD a) (ntD b) = true := rfl
theorem alike_row (a b : Nt × Int) : PySem.W.alike (rowD2 a) (rowD2 b) = true := rfl
theorem depth_nt (a : Nt) : (ntD a).depth = 1 := rfl
theorem depth_row (a : Nt × Int) : (rowD2 a).depth = 2 := rfl
theorem alike_nts (l : List Nt) : PySem.W.AllAlike (l.map ntD) ∧ PySem.W.Sortable (l.map ntD) ∧ ∀ d ∈ l.map ntD, d.depth ≤ 100 := by
  refine ⟨.of fun b b' => rfl, .tuples fun b => ⟨_, _, rfl⟩, fun d hd => ?_⟩
  obtain ⟨a, _, rfl⟩ := List.mem_map.mp hd
  rw [depth_nt]; decide
theorem alike_rows (l : List (Nt × Int)) : PySem.W.AllAlike (l.map rowD2) ∧ PySem.W.Sortable (l.map rowD2) ∧ ∀ d ∈ l.map rowD2, d.depth ≤ 100 := by
  refine ⟨.of fun b b' => rfl, .tuples fun b => ⟨_, _, rfl⟩, fun d hd => ?_⟩
  obtain ⟨a, _, rfl⟩ := List.mem_map.mp hd
  rw [depth_row]; decide
theorem ntD_inj {a b : Nt} (h : ntD a = ntD b) : a = b := by
  obtain ⟨a1, a2, a3⟩ := a
  obtain ⟨b1, b2, b3⟩ := b
  unfold ntD at h
  simp only [PyData.tuple.injEq, List.cons.injEq, PyData.int.injEq, and_true] at h
  simp [h]
theorem eqv_nt (a b : Nt) : PyData.eqv (ntD a) (ntD b) = decide (a = b) := by
  obtain ⟨a1, a2, a3⟩ := a
  obtain ⟨b1, b2, b3⟩ := b
  unfold ntD
  rw [Bool.eq_iff_iff]
  simp only [PyData.eqv, PyData.eqvAll, Bool.and_eq_true, Bool.and_true, beq_iff_eq, decide_eq_true_eq, Prod.mk.injEq]
/-- sorted notes, sorted rows -/
theorem srt_nts (l : List Nt) : ∃ m : List Nt, m.Perm l ∧ srt (l.map ntD) = m.map ntD ∧ m.Pairwise fun a b => ltN b a = false := by
  obtain ⟨m, h1, h2⟩ := perm_map (srt_perm (l.map ntD)) l rfl
  have h := srt_asc (l.map ntD)
  rw [h2, List.pairwise_map] at h
  exact ⟨m, h1, h2, h.imp fun {a b} q => by rw [dataLt_nt] at q; exact q⟩
theorem srt_rows (l : List (Nt × Int)) : ∃ m : List (Nt × Int), m.Perm l ∧ srt (l.map rowD2) = m.map rowD2 ∧ m.Pairwise fun a b => ltN b.1 a.1 = false := by
  obtain ⟨m, h1, h2⟩ := perm_map (srt_perm (l.map rowD2)) l rfl
  have h := srt_asc (l.map rowD2)
  rw [h2, List.pairwise_map] at h
  exact ⟨m, h1, h2, h.imp fun {a b} q => by rw [dataLt_row] at q; simp only [Bool.or_eq_false_iff] at q; exact q.1⟩

/-! ### forms -/
def isPosI : D → Bool
  | .int i => decide (0 < i)
  | _ => false
def isNote : D → Bool
  | .tuple [a, b, c] => isIndex a && (isNum b && isPosI c)
  | _ => false
def isScoreForm : D → Bool
  | .tuple [t, .tuple ns] => isIndex t && ns.all isNote
  | _ => false
theorem isIndex_of {x : D} (h : isIndex x = true) : ∃ i, x = .int i ∧ 0 ≤ i := by
  cases x with
  | int i => exact ⟨i, rfl, by simpa [isIndex] using h⟩
  | _ => cases h
theorem isNum_of {x : D} (h : isNum x = true) : ∃ i, x = .int i := by
  cases x with
  | int i => exact ⟨i, rfl⟩
  | _ => cases h
theorem isPosI_of {x : D} (h : isPosI x = true) : ∃ i, x = .int i ∧ 0 < i := by
  cases x with
  | int i => exact ⟨i, rfl, by simpa [isPosI] using h⟩
  | _ => cases h
theorem isNote_of {x : D} (h : isNote x = true) : ∃ n : Nt, x = ntD n ∧ 0 ≤ n.1 ∧ 1 ≤ n.2.2 := by
  unfold isNote at h
  split at h
  · rename_i a b c
    simp only [Bool.and_eq_true] at h
    obtain ⟨i, rfl, hi⟩ := isIndex_of h.1
    obtain ⟨j, rfl⟩ := isNum_of h.2.1
    obtain ⟨k, rfl, hk⟩ := isPosI_of h.2.2
    exact ⟨(i, j, k), rfl, hi, by show 1 ≤ k; omega⟩
  · cases h
theorem isNote_nt (n : Nt) : isNote (ntD n) = (decide (0 ≤ n.1) && decide (1 ≤ n.2.2)) := by
  show (isIndex (.int n.1) && (isNum (.int n.2.1) && isPosI (.int n.2.2))) = _
  rw [Bool.eq_iff_iff]
  simp [isIndex, isNum, isPosI, isIntD, isBoolD]
  omega
theorem notes_of : ∀ {xs : List D}, xs.all isNote = true → ∃ ns : List Nt, xs = ns.map ntD ∧ ∀ n ∈ ns, 0 ≤ n.1 ∧ 1 ≤ n.2.2
  | [], _ => ⟨[], rfl, by simp⟩
  | x :: xs, h => by
    simp only [List.all_cons, Bool.and_eq_true] at h
    obtain ⟨n, rfl, hn⟩ := isNote_of h.1
    obtain ⟨ns, rfl, hs⟩ := notes_of h.2
    exact ⟨n :: ns, rfl, fun m hm => by
      rcases List.mem_cons.mp hm with rfl | hm
      · exact hn
      · exact hs m hm⟩
theorem form_of {x : D} (h : isScoreForm x = true) : ∃ t ns, x = scoD t ns ∧ 0 ≤ t ∧ ∀ n ∈ ns, 0 ≤ n.1 ∧ 1 ≤ n.2.2 := by
  unfold isScoreForm at h
  split at h
  · rename_i a xs
    simp only [Bool.and_eq_true] at h
    obtain ⟨i, rfl, hi⟩ := isIndex_of h.1
    obtain ⟨ns, rfl, hn⟩ := notes_of h.2
    exact ⟨i, ns, rfl, hi, hn⟩
  · cases h
theorem form_sco (t : Int) (ns : List Nt) : isScoreForm (scoD t ns) = (decide (0 ≤ t) && ns.all fun n => decide (0 ≤ n.1) && decide (1 ≤ n.2.2)) := by
  show (isIndex (.int t) && (ns.map ntD).all isNote) = _
  rw [List.all_map]
  have e : (isNote ∘ ntD) = fun n : Nt => decide (0 ≤ n.1) && decide (1 ≤ n.2.2) := funext isNote_nt
  rw [e]
  rfl
theorem scoD_inj {t u : Int} {ns ms : List Nt} (h : scoD t ns = scoD u ms) : t = u ∧ ns = ms := by
  unfold scoD at h
  simp only [PyData.tuple.injEq, List.cons.injEq, PyData.int.injEq, and_true] at h
  refine ⟨h.1, ?_⟩
  have := h.2
  clear h
  induction ns generalizing ms with
  | nil => cases ms with
    | nil => rfl
    | cons _ _ => cases this
  | cons a r ih => cases ms with
    | nil => cases this
    | cons b s =>
      simp only [List.map_cons, List.cons.injEq] at this
      rw [ntD_inj this.1, ih this.2]
def Φ_is_note : Fs := fun ys P _ => ∃ x, ys = [.d x] ∧ P (.d (.bool (isNote x)))
def φ_is_note : Fn1 := fun d R => R (.bool (isNote d))
theorem φ_is_note_ok : ∀ d R, φ_is_note d R → Φ_is_note [.d d] (fun y => match y with
  | .d x => R x
  | _ => False) (fun _ => False) := fun d R h => ⟨d, rfl, h⟩
def Φ_is_score_form : Fs := fun ys P _ => ∃ x, ys = [.d x] ∧ P (.d (.bool (isScoreForm x)))

/-! ### what checked_score says -/
def bsc (k : Int) (w : Str) : Xn := ⟨"BadScore", [("number", .int k), ("fault", .str w)]⟩
def tlg (w : Str) (m : Int) : Xn := ⟨"TooLarge", [("what", .str w), ("limit", .int m)]⟩
def nFault (t : Int) (ns : List Nt) (k : Int) : Option Str :=
  let n := ns.getD k.toNat default
  if 0 < k ∧ ltN (ns.getD (k - 1).toNat default) n = false then some "order"
  else if ¬ (-1 ≤ n.2.1 ∧ n.2.1 ≤ 599) then some "pitch"
  else if t < n.1 + n.2.2 then some "length" else none
def firstFault (t : Int) (ns : List Nt) : Option Xn := (upto ns.length).findSome? fun k => (nFault t ns k).map (bsc k)
def sFault' (t : Int) (ns : List Nt) : Option Xn :=
  if t < 1 then some (bsc (-1) "ticks") else if 64 < t then some (tlg "ticks" 64) else if 120 < ns.length then some (tlg "notes" 120) else firstFault t ns
def unNt : D → Nt
  | .tuple [.int a, .int b, .int c] => (a, b, c)
  | _ => default
def scoT : D → Int
  | .tuple [.int t, _] => t
  | _ => 0
def scoN : D → List Nt
  | .tuple [_, .tuple ns] => ns.map unNt
  | _ => []
theorem scoN_sco (t : Int) (ns : List Nt) : scoN (scoD t ns) = ns := by
  show (ns.map ntD).map unNt = ns
  rw [List.map_map]
  exact (List.map_congr_left fun n _ => rfl).trans (List.map_id ns)
def sFault (x : D) : Option Xn := if isScoreForm x = true then sFault' (scoT x) (scoN x) else some (bsc (-1) "form")
theorem sFault_sco {t : Int} {ns : List Nt} (h : isScoreForm (scoD t ns) = true) : sFault (scoD t ns) = sFault' t ns := by
  unfold sFault
  rw [if_pos h, scoN_sco]; try rfl
def Φ_check_note : Fs := fun ys P Ex => ∃ t ns, ∃ k : Int, ys = [.d (scoD t ns), .d (.int k)] ∧ 0 ≤ k ∧ k < ns.length ∧ ((nFault t ns k = none ∧ P (.d .none)) ∨ ∃ w, nFault t ns k = some w ∧ Ex (bsc k w))
def Φ_checked_score : Fs := fun ys P Ex => ∃ x, ys = [.d x] ∧ ((sFault x = none ∧ P (.d x)) ∨ ∃ e, sFault x = some e ∧ Ex e)

/-! ### drawn parts -/
def seqD (c : Bool) (xs : List D) : D := if c = true then .tuple xs else .list xs
def fits (H : Hrp) (l : List Int) : Bool := decide ((l.length : Int) ≤ H.a) && (l.isEmpty || decide (l.getLast?.getD 0 - l.head?.getD 0 ≤ H.b))
def leftMany (H : Hrp) (l : List Int) : Option Int := ((upto (l.length + 1)).filter fun m => fits H (l.take m.toNat) && fits H (l.drop m.toNat)).head?
def optI : Option Int → D
  | some i => .int i
  | none => .none
def Φ__law_fits : Fs := fun ys P _ => ∃ h : Hrp, ∃ c l, ys = [.d h.d, .d (seqD c (l.map .int))] ∧ P (.d (.bool (fits h l)))
def Φ__law_left_many : Fs := fun ys P _ => ∃ h : Hrp, ∃ c, ∃ l : List Int, ys = [.d h.d, .d (seqD c (l.map .int))] ∧ l.length ≤ 1000 ∧ P (.d (optI (leftMany h l)))
def lastN (n : Nt) : Int := n.1 + n.2.2 - 1
def Φ__law_last : Fs := fun ys P _ => ∃ n : Nt, ys = [.d (ntD n)] ∧ P (.d (.int (lastN n)))
def cl3 (v : Int) : Int := if (if v < 1 then v else 1) > -1 then (if v < 1 then v else 1) else -1
theorem cl3_le (v : Int) : -1 ≤ cl3 v ∧ cl3 v ≤ 1 := by unfold cl3; split <;> split <;> omega
theorem cl3_eq {v : Int} (h0 : -1 ≤ v) (h1 : v ≤ 1) : cl3 v = v := by unfold cl3; split <;> split <;> omega
def movedL (ps : List Int) (l w : Int) : List Int := ps.take l.toNat ++ [cl3 (ps.getD l.toNat 0 + w)] ++ ps.drop (l.toNat + 1)
def Φ__law_moved : Fs := fun ys P _ => ∃ ps : List Int, ∃ l w : Int, ys = [.d (.tuple (ps.map .int)), .d (.int l), .d (.int w)] ∧ 0 ≤ l ∧ l < ps.length ∧ ps.length ≤ 1000 ∧ P (.d (.tuple ((movedL ps l w).map .int)))
theorem moved_set {H : Hrp} {ps : List Int} {l w : Int} (s : isSet H ps) (h0 : 0 ≤ l) (h1 : l < ps.length) : isSet H (movedL ps l w) := by
  refine ⟨?_, fun p hp => ?_⟩
  · unfold movedL
    simp only [List.length_append, List.length_take, List.length_drop, List.length_cons, List.length_nil]
    have := s.1
    omega
  · unfold movedL at hp
    simp only [List.mem_append, List.mem_singleton] at hp
    rcases hp with (hp | hp) | hp
    · exact s.2 p (List.mem_of_mem_take hp)
    · rw [hp]; exact cl3_le _
    · exact s.2 p (List.mem_of_mem_drop hp)
def srtI (l : List Int) : List Int := l.mergeSort fun a b => decide (a ≤ b)
/-- the strings of rows at a tick -/
def strsAt (rows : List (Nt × Int)) (k : Int) : List Int := (rows.filter fun r => decide (r.1.1 = k)).map (·.2)
structure DP (H : Hrp) (m b t : Int) (ns : List Nt) (first ss : List Int) (st : List Nt) : Prop where
  t0 : 1 ≤ t
  t1 : t ≤ m
  set : isSet H first
  len : ss.length = ns.length
  few : (ns.length : Int) ≤ m * b
  note : ∀ n ∈ ns, 0 ≤ n.1 ∧ n.1 < t ∧ 1 ≤ n.2.2 ∧ n.2.2 ≤ 3 ∧ n.1 + n.2.2 ≤ t ∧ -1 ≤ n.2.1 ∧ n.2.1 ≤ 101001
  asc : ns.Pairwise fun a b => ltN a b = true
  str : ∀ s ∈ ss, 0 ≤ s ∧ s < H.n
  hands : ∀ k, (leftMany H (srtI (strsAt (ns.zip ss) k))).isSome = true ∨ strsAt (ns.zip ss) k = []
  ring : (ns.zip ss).Pairwise fun a b => a.2 = b.2 → lastN a.1 < b.1.1 ∨ lastN b.1 < a.1.1
  steps : ∀ s ∈ st, 0 ≤ s.1 ∧ s.1 + 1 < t ∧ 0 ≤ s.2.1 ∧ s.2.1 < H.L ∧ (s.2.2 = 1 ∨ s.2.2 = -1)
  stfew : (st.length : Int) ≤ 2 * m
  stasc : st.Pairwise fun a b => ltN a b = true
def Φ__law_drawn_part : Fs := fun ys P _ => ∃ h : Hrp, ∃ m b : Int, h.Ok ∧ ys = [.bag, .d h.d, .d (.int m), .d (.int b)] ∧ 1 ≤ m ∧ m ≤ 20 ∧ 0 ≤ b ∧ b ≤ 10 ∧ ∀ t ns first ss st, DP h m b t ns first ss st → P (.d (.tuple [scoD t ns, partD first ss st]))
def Φ__law_is_int : Fs := fun ys P _ => ∃ x, ys = [.d x] ∧ P (.d (.bool (isNum x)))
end Pd

/-! Ph3: a part while it is drawn. -/
namespace Pd
open PySem PySem.Spec PyProof.Rows L2
theorem srtI_perm {l m : List Int} (h : l.Perm m) : srtI l = srtI m := by
  unfold srtI
  have le_t : ∀ a b c : Int, decide (a ≤ b) = true → decide (b ≤ c) = true → decide (a ≤ c) = true := fun a b c => by simp only [decide_eq_true_eq]; omega
  have le_o : ∀ a b : Int, (decide (a ≤ b) || decide (b ≤ a)) = true := fun a b => by simp only [Bool.or_eq_true, decide_eq_true_eq]; omega
  refine List.Perm.eq_of_pairwise (le := fun a b => decide (a ≤ b) = true) (fun a b _ _ h1 h2 => ?_) (List.pairwise_mergeSort le_t le_o l) (List.pairwise_mergeSort le_t le_o m) (((List.mergeSort_perm l _).trans h).trans (List.mergeSort_perm m _).symm)
  simp only [decide_eq_true_eq] at h1 h2
  omega
theorem strsAt_perm {l m : List (Nt × Int)} (h : l.Perm m) (k : Int) : (strsAt l k).Perm (strsAt m k) := (h.filter _).map _
theorem strsAt_app (l : List (Nt × Int)) (r : Nt × Int) (k : Int) : strsAt (l ++ [r]) k = if r.1.1 = k then strsAt l k ++ [r.2] else strsAt l k := by
  unfold strsAt
  rw [List.filter_append, List.map_append]
  by_cases e : r.1.1 = k
  · rw [if_pos e]; simp [e]
  · rw [if_neg e]; simp [e]
structure DI (H : Hrp) (t kt ks f c d : Int) (ps : List Int) (rows : List (Nt × Int)) (st : List Nt) : Prop where
  set : isSet H ps
  few : (rows.length : Int) ≤ c
  note : ∀ r ∈ rows, 0 ≤ r.1.1 ∧ r.1.1 < kt ∧ 1 ≤ r.1.2.2 ∧ r.1.2.2 ≤ 3 ∧ r.1.1 + r.1.2.2 ≤ t ∧ -1 ≤ r.1.2.1 ∧ r.1.2.1 ≤ 101001 ∧ 0 ≤ r.2 ∧ r.2 < H.n
  dis : rows.Pairwise fun a b => a.1 ≠ b.1
  ring : rows.Pairwise fun a b => a.2 = b.2 → lastN a.1 < b.1.1 ∨ lastN b.1 < a.1.1
  hands : ∀ k, (leftMany H (srtI (strsAt rows k))).isSome = true ∨ strsAt rows k = []
  steps : ∀ s ∈ st, 0 ≤ s.1 ∧ (s.1 < ks ∨ (s.1 = ks ∧ (H.row s.2.1).2.2 < f)) ∧ s.1 + 1 < t ∧ 0 ≤ s.2.1 ∧ s.2.1 < H.L ∧ (s.2.2 = 1 ∨ s.2.2 = -1)
  stfew : (st.length : Int) ≤ d
  stdis : st.Pairwise (· ≠ ·)
section
variable {H : Hrp} {t kt ks f c d k : Int} {ps : List Int} {rows : List (Nt × Int)} {st : List Nt}
theorem DI.start (s : isSet H ps) (hc : 0 ≤ c) (hd : 0 ≤ d) : DI H t 0 0 0 c d ps [] [] :=
  ⟨s, by simpa using hc, by simp, .nil, .nil, fun k => .inr rfl, by simp, by simpa using hd, .nil⟩
theorem DI.grow {c' d' kt' : Int} (h : DI H t kt ks f c d ps rows st) (hc : c ≤ c') (hd : d ≤ d') (hk : kt ≤ kt') : DI H t kt' ks f c' d' ps rows st :=
  ⟨h.set, by have := h.few; omega, fun r m => by have := h.note r m; omega, h.dis, h.ring, h.hands, h.steps, by have := h.stfew; omega, h.stdis⟩
theorem DI.none_at (h : DI H t kt ks f c d ps rows st) : strsAt rows kt = [] := by
  unfold strsAt
  rw [List.map_eq_nil_iff, List.filter_eq_nil_iff]
  intro r m
  have := h.note r m
  simp
  omega
theorem DI.pluck {n : Nt} {s : Int} (h : DI H t (k + 1) ks f c d ps rows st) (hn : n.1 = k) (k0 : 0 ≤ k) (l1 : 1 ≤ n.2.2) (l3 : n.2.2 ≤ 3) (le : n.1 + n.2.2 ≤ t) (p0 : -1 ≤ n.2.1) (p1 : n.2.1 ≤ 101001) (s0 : 0 ≤ s) (s1 : s < H.n)
    (hd : ∀ r ∈ rows, r.1 ≠ n) (hr : ∀ r ∈ rows, r.2 = s → lastN r.1 < k) (hh : (leftMany H (srtI (strsAt rows k ++ [s]))).isSome = true) : DI H t (k + 1) ks f (c + 1) d ps (rows ++ [(n, s)]) st := by
  refine ⟨h.set, ?_, fun r m => ?_, ?_, ?_, fun j => ?_, h.steps, h.stfew, h.stdis⟩
  · have := h.few
    rw [List.length_append, List.length_singleton]; omega
  · rcases List.mem_append.mp m with m | m
    · exact h.note r m
    · rw [List.mem_singleton.mp m]
      refine ⟨by show 0 ≤ n.1; omega, by show n.1 < k + 1; omega, l1, l3, le, p0, p1, s0, s1⟩
  · refine List.pairwise_append.mpr ⟨h.dis, List.pairwise_singleton _ _, fun a ma b mb => ?_⟩
    rw [List.mem_singleton.mp mb]
    exact hd a ma
  · refine List.pairwise_append.mpr ⟨h.ring, List.pairwise_singleton _ _, fun a ma b mb e => ?_⟩
    rw [List.mem_singleton.mp mb] at e ⊢
    have := hr a ma e
    exact .inl (by show lastN a.1 < n.1; omega)
  · rw [strsAt_app]
    show _ ∨ (if n.1 = j then strsAt rows j ++ [s] else strsAt rows j) = []
    show (leftMany H (srtI (if n.1 = j then strsAt rows j ++ [s] else strsAt rows j))).isSome = true ∨ _
    by_cases e : n.1 = j
    · rw [if_pos e]
      have ej : j = k := by omega
      subst ej
      exact .inl hh
    · rw [if_neg e]
      exact h.hands j
theorem DI.step {l w : Int} (h : DI H t kt ks f c d ps rows st) (ok : H.Ok) (k0 : 0 ≤ ks) (k1 : ks + 1 < t) (l0 : 0 ≤ l) (l1 : l < H.L) (lf : (H.row l).2.2 = f) (hw : w = 1 ∨ w = -1) : DI H t kt ks (f + 1) c (d + 1) (movedL ps l w) rows (st ++ [(ks, l, w)]) := by
  refine ⟨moved_set h.set l0 (by rw [h.set.1]; exact l1), h.few, h.note, h.dis, h.ring, h.hands, fun s m => ?_, ?_, ?_⟩
  · rcases List.mem_append.mp m with m | m
    · have := h.steps s m
      omega
    · rw [List.mem_singleton.mp m]
      exact ⟨k0, .inr ⟨rfl, by show (H.row l).2.2 < f + 1; omega⟩, k1, l0, l1, hw⟩
  · have := h.stfew
    rw [List.length_append, List.length_singleton]; omega
  · refine List.pairwise_append.mpr ⟨h.stdis, List.pairwise_singleton _ _, fun a ma b mb => ?_⟩
    rw [List.mem_singleton.mp mb]
    intro e
    have := h.steps a ma
    rw [e] at this
    have q : (H.row l).2.2 < f := by
      rcases this.2.1 with z | z
      · exact absurd z (by show ¬ ks < ks; omega)
      · exact z.2
    omega
theorem DI.skip (h : DI H t kt ks f c d ps rows st) : DI H t kt ks (f + 1) c (d + 1) ps rows st :=
  ⟨h.set, h.few, h.note, h.dis, h.ring, h.hands, fun s m => by have := h.steps s m; omega, by have := h.stfew; omega, h.stdis⟩
theorem DI.next (h : DI H t kt ks f c d ps rows st) : DI H t kt (ks + 1) 0 c d ps rows st :=
  ⟨h.set, h.few, h.note, h.dis, h.ring, h.hands, fun s m => by have := h.steps s m; omega, h.stfew, h.stdis⟩
theorem DI.end_ {m b : Int} {first : List Int} {rs : List (Nt × Int)} {ss : List Nt} (h : DI H t t ks f (t * b) (2 * t) ps rows st) (t0 : 1 ≤ t) (t1 : t ≤ m) (b0 : 0 ≤ b) (fs : isSet H first)
    (hp : rs.Perm rows) (asc : rs.Pairwise fun a b => ltN b.1 a.1 = false) (sp : ss.Perm st) (sasc : ss.Pairwise fun a b => ltN b a = false) : DP H m b t (rs.map (·.1)) first (rs.map (·.2)) ss := by
  have ez : (rs.map (·.1)).zip (rs.map (·.2)) = rs := by
    rw [List.zip_map']
    exact (List.map_congr_left fun _ _ => rfl).trans (List.map_id rs)
  have dis : rs.Pairwise fun a b => a.1 ≠ b.1 := (hp.pairwise_iff fun {a b} q e => q e.symm).mpr h.dis
  have ring : rs.Pairwise fun a b => a.2 = b.2 → lastN a.1 < b.1.1 ∨ lastN b.1 < a.1.1 := (hp.pairwise_iff fun {a b} q e => (q e.symm).symm).mpr h.ring
  have sdis : ss.Pairwise (· ≠ ·) := (sp.pairwise_iff fun {a b} q e => q e.symm).mpr h.stdis
  refine ⟨t0, t1, fs, by simp, ?_, fun n mn => ?_, ?_, fun s ms => ?_, fun k => ?_, by rw [ez]; exact ring, fun s ms => ?_, ?_, (sasc.and sdis).imp fun {a b} q => (ltN_no q.1).resolve_right q.2⟩
  · have := h.few
    have := hp.length_eq
    have : t * b ≤ m * b := Int.mul_le_mul_of_nonneg_right t1 b0
    rw [List.length_map]; omega
  · obtain ⟨r, mr, rfl⟩ := List.mem_map.mp mn
    have := h.note r (hp.mem_iff.mp mr)
    omega
  · rw [List.pairwise_map]
    exact (asc.and dis).imp fun {a b} q => (ltN_no q.1).resolve_right q.2
  · obtain ⟨r, mr, rfl⟩ := List.mem_map.mp ms
    have := h.note r (hp.mem_iff.mp mr)
    omega
  · rw [ez]
    have pm := strsAt_perm hp k
    rw [srtI_perm pm]
    rcases h.hands k with q | q
    · exact .inl q
    · exact .inr (by rw [q] at pm; exact pm.eq_nil)
  · have := h.steps s (sp.mem_iff.mp ms)
    omega
  · have := h.stfew
    have := sp.length_eq
    omega
end
theorem countD_cons (i : Int) (n : Nat) : countD i (n + 1) = .int i :: countD (i + 1) n := by
  unfold countD
  rw [List.range_succ_eq_map, List.map_cons, List.map_map]
  congr 1
  · simp
  · refine List.map_congr_left fun j _ => ?_
    show PyData.int (i + ((j + 1 : Nat) : Int)) = PyData.int (i + 1 + (j : Int))
    congr 1
    omega
theorem eqv_list_nil (zs : List D) : PyData.eqv (.list zs) (.list []) = zs.isEmpty := by
  cases zs <;> rfl
theorem noLst_nt (n : Nt) : noLst (ntD n) = true := rfl
theorem noLsts_map {α : Type} {f : α → D} (h : ∀ a, noLst (f a) = true) (l : List α) : noLsts (l.map f) = true := by
  rw [noLsts_all, List.all_map, List.all_eq_true]
  exact fun a _ => h a
theorem noLsts_mem {l : List D} (h : ∀ a ∈ l, noLst a = true) : noLsts l = true := by
  rw [noLsts_all, List.all_eq_true]
  exact h
theorem sized_of {x : D} {n : Nat} (h : isSized (n : Int) x = true) : ∃ ds, x = .tuple ds ∧ ds.length = n := by
  cases x with
  | tuple ds => exact ⟨ds, rfl, by simp only [isSized, decide_eq_true_eq] at h; omega⟩
  | _ => cases h
theorem seqD_len (c : Bool) (l : List Int) (P : Val → Prop) (h : P (.d (.int l.length))) : bLen [.d (seqD c (l.map .int))] P := by
  cases c with
  | false =>
    show P (.d (.int ((l.map PyData.int).length : Nat)))
    rw [List.length_map]; exact h
  | true =>
    show P (.d (.int ((l.map PyData.int).length : Nat)))
    rw [List.length_map]; exact h
theorem ix_seq {c : Bool} {xs : List D} {j : Int} {d : D} {P : Val → Prop} (e : atI xs j = some d) (h : P (.d d)) : opIx (.d (seqD c xs)) (.d (.int j)) P := by
  cases c with
  | false => exact ix_list e h
  | true => exact ix_tup e h
theorem at_first (a : Int) (r : List Int) : atI ((a :: r).map PyData.int) 0 = some (.int a) := atI_map (f := PyData.int) (l := a :: r) (Int.le_refl 0) (by simp only [List.length_cons]; omega)
theorem at_last (a : Int) (r : List Int) : atI ((a :: r).map PyData.int) (-1) = some (.int ((a :: r).getLast?.getD 0)) := by
  have h1 : ((a :: r).map PyData.int).length = r.length + 1 := by simp
  unfold atI ixN
  rw [h1]
  rw [if_neg (by omega), if_pos (by omega)]
  have e : (-1 + ((r.length + 1 : Nat) : Int)).toNat = r.length := by omega
  show ((a :: r).map PyData.int)[(-1 + ((r.length + 1 : Nat) : Int)).toNat]? = _
  rw [e, List.getElem?_map, List.getLast?_eq_getElem?]
  simp
theorem cut_seq (c : Bool) (l : List Int) (lo hi : Option Int) (P : Val → Prop) (h : ∀ y : Val, toArg y = some (.d (seqD c ((cutG l lo hi).map .int))) → P y) : opSl (.d (seqD c (l.map .int))) lo hi P := by
  have e : cutG (l.map PyData.int) lo hi = (cutG l lo hi).map .int := by
    unfold cutG
    simp [List.map_drop, List.map_take]
  cases c with
  | false =>
    show P (.own (cutG (l.map PyData.int) lo hi))
    rw [e]
    exact h _ rfl
  | true =>
    show P (.d (.tuple (cutG (l.map PyData.int) lo hi)))
    rw [e]
    exact h _ rfl
theorem szr {n : Nat} (h : Nat.ble n 1000 = true := by rfl) : n ≤ sizeLine := szl (Nat.le_of_ble_eq_true h)
theorem sorted_app {l : List Int} {s : Int} {P : Val → Prop} (h : P (.own ((srtI (l ++ [s])).map .int))) : bSorted [.own (l.map .int ++ [.int s])] P := by
  have e : l.map PyData.int ++ [.int s] = (l ++ [s]).map .int := by simp
  show (_ ∧ _) ∧ P (.own (srt (l.map .int ++ [.int s])))
  rw [e]
  refine ⟨alike_ints _, ?_⟩
  rw [srt_ints]
  exact h
theorem strsAt_len (rows : List (Nt × Int)) (k : Int) : (strsAt rows k).length ≤ rows.length := by
  unfold strsAt
  rw [List.length_map]
  exact List.length_filter_le _ _
def lwD (x : Int × Int) : D := .tuple [.int x.1, .int x.2]
theorem len13 {o : List O} (h : o.length = 13) : ∃ a b c d e f g i j k l m n, o = [a, b, c, d, e, f, g, i, j, k, l, m, n] := by
  match o, h with
  | [a, b, c, d, e, f, g, i, j, k, l, m, n], _ => exact ⟨a, b, c, d, e, f, g, i, j, k, l, m, n, rfl⟩
theorem len14 {o : List O} (h : o.length = 14) : ∃ a b c d e f g i j k l m n q, o = [a, b, c, d, e, f, g, i, j, k, l, m, n, q] := by
  match o, h with
  | [a, b, c, d, e, f, g, i, j, k, l, m, n, q], _ => exact ⟨a, b, c, d, e, f, g, i, j, k, l, m, n, q, rfl⟩
end Pd

/-! Ph4: words of scores: what rings, what begins, scores made of scores. -/
namespace Pd
open PySem PySem.Spec PyProof.Rows L2
def ntAt (ns : List Nt) (i : Int) : Nt := ns.getD i.toNat default
def ringsI (ns : List Nt) (k : Int) : List Int := (upto ns.length).filter fun i => decide ((ntAt ns i).1 ≤ k) && decide (k ≤ lastN (ntAt ns i))
def beginsI (ns : List Nt) (k : Int) : List Int := (upto ns.length).filter fun i => decide ((ntAt ns i).1 = k)
/-- the members in order, each once -/
noncomputable def uniq (l : List Int) : List Int := open Classical in if h : ∃ out : List Int, out.Pairwise (· < ·) ∧ ∀ k, k ∈ out ↔ k ∈ l then h.choose else []
theorem uniq_of {l out : List Int} (p : out.Pairwise (· < ·)) (m : ∀ k, k ∈ out ↔ k ∈ l) : uniq l = out := by
  have h : ∃ out : List Int, out.Pairwise (· < ·) ∧ ∀ k, k ∈ out ↔ k ∈ l := ⟨out, p, m⟩
  unfold uniq
  rw [dif_pos h]
  obtain ⟨q, n⟩ := h.choose_spec
  exact asc_eq q p fun k => (n k).trans (m k).symm
def upN (s : Int) (n : Nt) : Nt := (n.1, n.2.1 + s, n.2.2)
def laterN (s : Int) (n : Nt) : Nt := (n.1 + s, n.2.1, n.2.2)
def earlierN (s : Int) (n : Nt) : Nt := (n.1 - s, n.2.1, n.2.2)
def Chk (y : D) (P : Val → Prop) (Ex : Xn → Prop) : Prop := (sFault y = none ∧ P (.d y)) ∨ ∃ e, sFault y = some e ∧ Ex e
def Φ_last_tick : Fs := fun ys P _ => ∃ n : Nt, ys = [.d (ntD n)] ∧ P (.d (.int (lastN n)))
def Φ_rings_at : Fs := fun ys P _ => ∃ t ns, ∃ k : Int, ys = [.d (scoD t ns), .d (.int k)] ∧ P (.d (.tuple ((ringsI ns k).map .int)))
def Φ_begins_at : Fs := fun ys P _ => ∃ t ns, ∃ k : Int, ys = [.d (scoD t ns), .d (.int k)] ∧ P (.d (.tuple ((beginsI ns k).map .int)))
def pitchesI (ns : List Nt) (l : List Int) : List Int := l.map fun i => (ntAt ns i).2.1
def Φ_pitches_at : Fs := fun ys P _ => ∃ t ns, ∃ k : Int, ys = [.d (scoD t ns), .d (.int k)] ∧ (ringsI ns k).length < 64 ∧ P (.d (.tuple ((uniq (pitchesI ns (ringsI ns k))).map .int)))
def Φ_raised : Fs := fun ys P Ex => ∃ t ns, ∃ x, ys = [.d (scoD t ns), .d x] ∧ ((isNum x = false ∧ Ex noth) ∨ ∃ s : Int, x = .int s ∧ Chk (scoD t (ns.map (upN s))) P Ex)
def Φ_from_tick : Fs := fun ys P Ex => ∃ t ns, ∃ x, ys = [.d (scoD t ns), .d x] ∧ ((∃ k : Int, x = .int k ∧ 0 ≤ k ∧ k < t ∧ P (.d (scoD (t - k) ((ns.filter fun n => decide (k ≤ n.1)).map (earlierN k))))) ∨ (inIx x t = false ∧ Ex noth))
def Φ_joined : Fs := fun ys P Ex => ∃ t ns u ms, ys = [.d (scoD t ns), .d (scoD u ms)] ∧ ns.length + ms.length ≤ 1000 ∧ Chk (scoD (t + u) (ns ++ ms.map (laterN t))) P Ex
def Φ_with_note : Fs := fun ys P Ex => ∃ t ns, ∃ x, ys = [.d (scoD t ns), .d x] ∧ ns.length ≤ 900 ∧ ((∃ n : Nt, x = ntD n ∧ isNote x = true ∧ n ∉ ns ∧ Chk (.tuple [.int t, .tuple (srt ((ns ++ [n]).map ntD))]) P Ex) ∨ ((isNote x = false ∨ ∃ n ∈ ns, x = ntD n) ∧ Ex noth))
def Φ_without_note : Fs := fun ys P Ex => ∃ t ns, ∃ x, ys = [.d (scoD t ns), .d x] ∧ ns.length ≤ 900 ∧ ((∃ k : Int, x = .int k ∧ 0 ≤ k ∧ k < ns.length ∧ P (.d (scoD t (ns.take k.toNat ++ ns.drop (k.toNat + 1))))) ∨ (inIx x ns.length = false ∧ Ex noth))
/-- the most that ring at one tick, and the first such tick -/
structure Loud (t : Int) (ns : List Nt) (m k : Int) : Prop where
  k0 : 0 ≤ k
  k1 : k < t
  eq : m = (ringsI ns k).length
  most : ∀ j, 0 ≤ j → j < t → ((ringsI ns j).length : Int) ≤ m
  first : ∀ j, 0 ≤ j → j < k → ((ringsI ns j).length : Int) < m
theorem Loud.one {t : Int} {ns : List Nt} {m k m' k' : Int} (h : Loud t ns m k) (h' : Loud t ns m' k') : m = m' ∧ k = k' := by
  have a := h.most k' h'.k0 h'.k1
  have b := h'.most k h.k0 h.k1
  have e := h.eq
  have e' := h'.eq
  refine ⟨by omega, ?_⟩
  rcases Int.lt_trichotomy k k' with z | z | z
  · have := h'.first k h.k0 z; omega
  · exact z
  · have := h.first k' h'.k0 z; omega
def Φ_loudest : Fs := fun ys P _ => ∃ t ns, ys = [.d (scoD t ns)] ∧ 1 ≤ t ∧ t ≤ 500 ∧ ∀ m k, Loud t ns m k → P (.d (.tuple [.int m, .int k]))
def spanD : List Nt → D
  | [] => .none
  | n :: ns => .tuple [.int ((ns.map fun n => n.2.1).foldl min n.2.1), .int ((ns.map fun n => n.2.1).foldl max n.2.1)]
def Φ_span_of : Fs := fun ys P _ => ∃ t ns, ys = [.d (scoD t ns)] ∧ P (.d (spanD ns))
def noteOk (t : Int) (n : Nt) : Bool := decide (-1 ≤ n.2.1 ∧ n.2.1 ≤ 599) && decide (n.1 + n.2.2 ≤ t)
def cFault (t : Int) (ns : List Nt) (k : Int) : Option D := if noteOk t (ntAt ns k) = true then none else some (.tuple [.str "score", .int k, .str (if -1 ≤ (ntAt ns k).2.1 ∧ (ntAt ns k).2.1 ≤ 599 then "length" else "pitch")])
def chkD (t : Int) (ns : List Nt) : D := if 64 < t then .tuple [.str "large", .str "ticks", .int 64] else if 120 < ns.length then .tuple [.str "large", .str "notes", .int 120] else ((upto ns.length).findSome? (cFault t ns)).getD (.tuple [.str "told", scoD t ns])
def Φ__law_checked : Fs := fun ys P _ => ∃ t ns, ys = [.d (scoD t ns)] ∧ P (.d (chkD t ns))
theorem depthAll_nts : ∀ l : List Nt, PyData.depthAll (l.map ntD) ≤ 1
  | [] => Nat.zero_le _
  | n :: l => by
    rw [List.map_cons, PyData.depthAll]
    have := depthAll_nts l
    have e : (ntD n).depth = 1 := depth_nt n
    omega
theorem tv_chain_le {wa wb wc : WE} {ρ : Ev} {P : Bool → Prop} {Ex : Xn → Prop} {a b c : Int} (ha : ∀ (Q : Val → Prop) (E : Xn → Prop), Q (.d (.int a)) → wa ρ Q E) (hb : ∀ (Q : Val → Prop) (E : Xn → Prop), Q (.d (.int b)) → wb ρ Q E) (hc : ∀ (Q : Val → Prop) (E : Xn → Prop), Q (.d (.int c)) → wc ρ Q E) (h : P (decide (a ≤ b) && decide (b ≤ c))) : wTv (wChain opLe opLe wa wb wc) ρ P Ex := by
  unfold wTv wChain
  refine ha _ _ (hb _ _ ?_)
  simp only [opLe, opCmp, Val.rd]
  cases e : decide (a ≤ b) with
  | true =>
    rw [e] at h
    exact hc _ _ h
  | false =>
    rw [e] at h
    exact h
theorem tv_chain_lt {wa wb wc : WE} {ρ : Ev} {P : Bool → Prop} {Ex : Xn → Prop} {a b c : Int} (ha : ∀ (Q : Val → Prop) (E : Xn → Prop), Q (.d (.int a)) → wa ρ Q E) (hb : ∀ (Q : Val → Prop) (E : Xn → Prop), Q (.d (.int b)) → wb ρ Q E) (hc : ∀ (Q : Val → Prop) (E : Xn → Prop), Q (.d (.int c)) → wc ρ Q E) (h : P (decide (a ≤ b) && decide (b < c))) : wTv (wChain opLe opLt wa wb wc) ρ P Ex := by
  unfold wTv wChain
  refine ha _ _ (hb _ _ ?_)
  simp only [opLe, opLt, opCmp, Val.rd]
  cases e : decide (a ≤ b) with
  | true =>
    rw [e] at h
    exact hc _ _ h
  | false =>
    rw [e] at h
    exact h
theorem sco_map (t : Int) (ns : List Nt) (f : Nt → Nt) : scoD t (ns.map f) = .tuple [.int t, .tuple (ns.map fun n => ntD (f n))] := by
  unfold scoD
  rw [List.map_map]
  rfl
/-- pairs of whole numbers -/
def prD (x : Int × Int) : D := .tuple [.int x.1, .int x.2]
def ltP (a b : Int × Int) : Bool := decide (a.1 < b.1) || (!decide (b.1 < a.1) && decide (a.2 < b.2))
theorem dataLt_pr (a b : Int × Int) : PySem.W.dataLt (prD a) (prD b) = ltP a b := by
  simp [PySem.W.dataLt, prD, PySem.W.keyToks, PySem.W.keyToksAll, PyProof.Rows.lexLt, PyProof.Rows.itemOrd, PyProof.Rows.itemLt, ltP]
theorem ltP_iff {a b : Int × Int} : ltP a b = true ↔ a.1 < b.1 ∨ (a.1 = b.1 ∧ a.2 < b.2) := by
  unfold ltP
  simp only [Bool.or_eq_true, Bool.and_eq_true, Bool.not_eq_true', decide_eq_true_eq, decide_eq_false_iff_not]
  omega
def minP (x : Int × Int) (xs : List (Int × Int)) : Int × Int := xs.foldl (fun a y => if ltP y a then y else a) x
theorem minD_pr : ∀ (xs : List (Int × Int)) (x : Int × Int), PySem.W.minD (prD x) (xs.map prD) = prD (minP x xs)
  | [], _ => rfl
  | y :: ys, x => by
    have h := minD_pr ys (if ltP y x then y else x)
    unfold PySem.W.minD minP at h ⊢
    rw [List.map_cons, List.foldl_cons, List.foldl_cons, dataLt_pr]
    rw [← h]
    congr 1
    split <;> rfl
theorem minP_mem : ∀ (xs : List (Int × Int)) (x : Int × Int), minP x xs ∈ x :: xs
  | [], x => List.mem_cons_self
  | y :: ys, x => by
    have h := minP_mem ys (if ltP y x then y else x)
    show minP (if ltP y x then y else x) ys ∈ _
    rcases List.mem_cons.mp h with e | h
    · rw [e]
      split
      · exact List.mem_cons_of_mem _ List.mem_cons_self
      · exact List.mem_cons_self
    · exact List.mem_cons_of_mem _ (List.mem_cons_of_mem _ h)
theorem minP_le : ∀ (xs : List (Int × Int)) (x z : Int × Int), z ∈ x :: xs → ltP z (minP x xs) = false
  | [], x, z, h => by
    rw [List.mem_singleton.mp h]
    show ltP x x = false
    rw [Bool.eq_false_iff]
    intro q
    rw [ltP_iff] at q
    omega
  | y :: ys, x, z, h => by
    show ltP z (minP (if ltP y x = true then y else x) ys) = false
    have ih := minP_le ys (if ltP y x = true then y else x)
    have top := ih _ List.mem_cons_self
    generalize minP (if ltP y x = true then y else x) ys = m at ih top ⊢
    rcases List.mem_cons.mp h with rfl | h
    · rw [Bool.eq_false_iff] at top ⊢
      intro q
      apply top
      by_cases c : ltP y z = true
      · rw [if_pos c]
        rw [ltP_iff] at c q ⊢
        omega
      · rw [if_neg c]
        exact q
    · rcases List.mem_cons.mp h with rfl | h
      · rw [Bool.eq_false_iff] at top ⊢
        intro q
        apply top
        by_cases c : ltP z x = true
        · rw [if_pos c]
          exact q
        · rw [if_neg c]
          rw [ltP_iff] at c q ⊢
          omega
      · exact ih z (List.mem_cons_of_mem _ h)
theorem alike_prs (l : List (Int × Int)) : PySem.W.AlikeAll (l.map prD) ∧ PyData.depthAll (l.map prD) ≤ 1 := by
  refine ⟨⟨fun x hx y hy => ?_, fun x hx => ?_⟩, ?_⟩
  · obtain ⟨a, _, rfl⟩ := List.mem_map.mp hx
    obtain ⟨b, _, rfl⟩ := List.mem_map.mp hy
    rfl
  · obtain ⟨a, _, rfl⟩ := List.mem_map.mp hx
    unfold prD
    simp
  · induction l with
    | nil => exact Nat.zero_le _
    | cons a l ih =>
      rw [List.map_cons, PyData.depthAll]
      have e : (prD a).depth = 1 := rfl
      omega
theorem alike_is (l : List Int) : PySem.W.AlikeAll (l.map PyData.int) ∧ PyData.depthAll (l.map PyData.int) ≤ 100 := by
  refine ⟨⟨fun x hx y hy => ?_, fun x hx => ?_⟩, ?_⟩
  · obtain ⟨a, _, rfl⟩ := List.mem_map.mp hx
    obtain ⟨b, _, rfl⟩ := List.mem_map.mp hy
    rfl
  · obtain ⟨a, _, rfl⟩ := List.mem_map.mp hx
    simp
  · induction l with
    | nil => exact Nat.zero_le _
    | cons a l ih =>
      rw [List.map_cons, PyData.depthAll]
      have e : (PyData.int a).depth = 0 := rfl
      omega
theorem map_int_inj : ∀ {a b : List Int}, a.map PyData.int = b.map PyData.int → a = b
  | [], [], _ => rfl
  | [], _ :: _, h => by cases h
  | _ :: _, [], h => by cases h
  | x :: a, y :: b, h => by
    simp only [List.map_cons, List.cons.injEq, PyData.int.injEq] at h
    rw [h.1, map_int_inj h.2]
/-- a loop that returns at the first item that fails -/
theorem forW_any {b : WB} {body : WS} {E : En} {p : D → Bool} {Rt : Prop} (Sh : Ev → Prop) : ∀ {xs : List D}, (∀ d ∈ xs, ∀ ρ (K : Ev → Prop), Sh ρ → (p d = true → Rt) → (p d = false → ∀ ρ', Sh ρ' → K ρ') → b ρ d fun ρ' => body { E with nx := K, ct := K, bk := E.nx } ρ') →
    (xs.any p = true → Rt) → (xs.any p = false → ∀ ρ, Sh ρ → E.nx ρ) → ∀ ρ, Sh ρ → forW b body E xs ρ
  | [], _, h1, h2, ρ, s => h2 rfl ρ s
  | d :: xs, st, h1, h2, ρ, s => by
    refine st d List.mem_cons_self ρ (forW b body E xs) s (fun e => h1 (by rw [List.any_cons, e]; rfl)) (fun e ρ' s' => ?_)
    exact forW_any Sh (fun a m => st a (List.mem_cons_of_mem _ m)) (fun z => h1 (by rw [List.any_cons, z, Bool.or_true])) (fun z => h2 (by rw [List.any_cons, z, e]; rfl)) ρ' s'
/-- a loop that returns at the first item that tells something -/
theorem forW_some {α β : Type} {b : WB} {body : WS} {E : En} {f : α → D} {p : α → Option β} {Rt : β → Prop} (Sh : Ev → Prop) : ∀ {xs : List α}, (∀ a ∈ xs, ∀ ρ (K : Ev → Prop), Sh ρ → (match p a with
    | some e => Rt e
    | none => ∀ ρ', Sh ρ' → K ρ') → b ρ (f a) fun ρ' => body { E with nx := K, ct := K, bk := E.nx } ρ') →
    (match xs.findSome? p with
    | some e => Rt e
    | none => ∀ ρ, Sh ρ → E.nx ρ) → ∀ ρ, Sh ρ → forW b body E (xs.map f) ρ
  | [], _, h, ρ, s => h ρ s
  | a :: xs, st, h, ρ, s => by
    rw [List.map_cons]
    refine st a List.mem_cons_self ρ (forW b body E (xs.map f)) s ?_
    rw [List.findSome?_cons] at h
    cases e : p a with
    | some c => rw [e] at h; exact h
    | none => rw [e] at h; exact fun ρ' s' => forW_some Sh (fun a m => st a (List.mem_cons_of_mem _ m)) h ρ' s'
theorem isIndex_no {a : D} (h : isNum a = false) : isIndex a = false := by
  cases a with
  | int i => cases h
  | _ => rfl
theorem isPosI_no {a : D} (h : isNum a = false) : isPosI a = false := by
  cases a with
  | int i => cases h
  | _ => rfl
theorem form_two {ds : List D} (h : ds.length ≠ 2) : isScoreForm (.tuple ds) = false := by
  unfold isScoreForm
  split
  · rename_i heq; cases heq; exact absurd rfl h
  · rfl
theorem note_three {ds : List D} (h : ds.length ≠ 3) : isNote (.tuple ds) = false := by
  unfold isNote
  split
  · rename_i heq; cases heq; exact absurd rfl h
  · rfl
theorem form_ab (a b : D) (h : isIndex a = false ∨ isTupleD b = false) : isScoreForm (.tuple [a, b]) = false := by
  unfold isScoreForm
  split
  · rename_i heq
    cases heq
    rcases h with h | h
    · rw [h]; rfl
    · cases h
  · rfl
end Pd

namespace Pd
open PySem PySem.Spec PyProof.Rows L2
def resv : List D := [.str "hands", .str "left", .str "letter", .str "note", .str "right", .str "round", .str "strings", .str "ticks"]
def lowS : Str := "abcdefghijklmnopqrstuvwxyz"
def sgOk : D → Bool
  | .str c => !(Builtin.Str.occurrences lowS c 0 lowS.length 1).isEmpty
  | _ => false
def isNameS (s : Str) : Bool := decide (2 ≤ (s.length : Int)) && (decide ((s.length : Int) ≤ 8) && (!(resv.any fun y => PyData.eqv y (.str s)) && (signsD s).all sgOk))
def isNameD : D → Bool
  | .str s => isNameS s
  | _ => false
def Short (x : D) : Prop := ∀ s, x = .str s → s.length ≤ 1000
def Φ_is_name : Fs := fun ys P _ => ∃ x, ys = [.d x] ∧ Short x ∧ P (.d (.bool (isNameD x)))
def Φ__law_is_name : Fs := Φ_is_name
def isLetD : D → Bool
  | .tuple [a, b, c] => isNameD a && (isIndex b && isIndex c)
  | _ => false
def ShortL (x : D) : Prop := ∀ a b c, x = .tuple [a, b, c] → Short a
def Φ_is_letter : Fs := fun ys P _ => ∃ x, ys = [.d x] ∧ ShortL x ∧ P (.d (.bool (isLetD x)))
def φ_is_letter : Fn1 := fun d R => ShortL d ∧ R (.bool (isLetD d))
theorem φ_is_letter_ok : ∀ d R, φ_is_letter d R → Φ_is_letter [.d d] (fun y => match y with
  | .d x => R x
  | _ => False) (fun _ => False) := fun d R h => ⟨d, rfl, h⟩
def ShortH (x : D) : Prop := ∀ a rows b c d, x = .tuple [a, .tuple rows, b, c, d] → rows.length ≤ 500 ∧ ∀ r ∈ rows, ShortL r
def isHarpF : D → Bool
  | .tuple [a, .tuple rows, b, c, d] => rows.all isLetD && (isIndex a && (isIndex b && (isIndex c && isIndex d)))
  | _ => false
def Φ_is_harp_form : Fs := fun ys P _ => ∃ x, ys = [.d x] ∧ ShortH x ∧ P (.d (.bool (isHarpF x)))
def Φ__law_is_form : Fs := fun ys P _ => ∃ x, ys = [.d x] ∧ ShortH x ∧ P (.d (.bool (isHarpF x)))
def bh (w f : Str) : Xn := ⟨"BadHarp", [("where", .str w), ("fault", .str f)]⟩
def numF (w : Str) (v lo hi : Int) : Option Xn := if v < lo then some (bh w "few") else if hi < v then some (tlg w hi) else none
/-- what is raised, or what follows -/
def Or1 (o : Option Xn) (P : Prop) (Ex : Xn → Prop) : Prop := match o with
  | none => P
  | some e => Ex e
def Φ_check_number : Fs := fun ys P Ex => ∃ w : Str, ∃ v lo hi : Int, ys = [.d (.str w), .d (.int v), .d (.int lo), .d (.int hi)] ∧ Or1 (numF w v lo hi) (P (.d .none)) Ex
def rowF (h : Hrp) (k : Int) : Option Xn :=
  if (h.row k).1 ∈ (h.rows.take k.toNat).map (·.1) then some (bh (h.row k).1 "twice")
  else if (0 < k ∧ (h.row k).2.1 ≤ (h.row (k - 1)).2.1) ∨ h.sz ≤ (h.row k).2.1 then some (bh (h.row k).1 "base")
  else if 1 < (h.row k).2.2 then some (bh (h.row k).1 "foot") else none
def letF (h : Hrp) : Option Xn := (upto h.L).findSome? (rowF h)
def harpF' (h : Hrp) : Option Xn := (numF "round" h.sz 2 24).or ((numF "letters" h.L 2 9).or ((letF h).or ((numF "strings" h.n 1 60).or ((numF "fingers" h.a 1 5).or (numF "reach" h.b 0 59)))))
def unRow : D → Str × Int × Int
  | .tuple [.str s, .int b, .int f] => (s, b, f)
  | _ => default
def unH : D → Hrp
  | .tuple [.int a, .tuple rows, .int b, .int c, .int d] => ⟨a, rows.map unRow, b, c, d⟩
  | _ => ⟨0, [], 0, 0, 0⟩
def hFault (x : D) : Option Xn := if isHarpF x = true then harpF' (unH x) else some (bh "" "form")
def Φ_check_letters : Fs := fun ys P Ex => ∃ h : Hrp, ys = [.d h.d] ∧ (∀ r ∈ h.rows, 0 ≤ r.2.1) ∧ h.rows.length ≤ 500 ∧ Or1 (letF h) (P (.d .none)) Ex
def Φ_checked_harp : Fs := fun ys P Ex => ∃ x, ys = [.d x] ∧ ShortH x ∧ Or1 (hFault x) (P (.d x)) Ex
def cs1 : Clz := [("BadHarp", "harp", ["where", "fault"]), ("TooLarge", "large", ["what", "limit"])]
def toldD (o : Option Xn) : D := match o with
  | none => .none
  | some e => (tells e cs1).getD .none
def dueH (x : D) : D := match hFault x with
  | none => .tuple [.str "told", x]
  | some e => (tells e cs1).getD .none
def Φ__law_bound : Fs := fun ys P _ => ∃ w : Str, ∃ v lo hi : Int, ys = [.d (.str w), .d (.int v), .d (.int lo), .d (.int hi)] ∧ P (.d (toldD (numF w v lo hi)))
def Φ__law_due : Fs := fun ys P _ => ∃ x, ys = [.d x] ∧ ShortH x ∧ P (.d (dueH x))
/-! ### what is bent -/
structure GRow (B : Int) (d : D) : Prop where
  sm : Sm 200 1 d
  sh : ShortL d
  bd : ∀ r, d = rowD r → r.1.length ≤ 10 ∧ PyData.strOk r.1 = true ∧ r.2.1 ≤ B ∧ r.2.2 ≤ B
structure GNum (B : Int) (d : D) : Prop where
  sm : Sm 40 0 d
  bd : ∀ i, d = .int i → i ≤ B
structure BddH (B : Int) (M : Nat) (h : Hrp) : Prop where
  num : ∀ i ∈ [h.sz, h.n, h.a, h.b], 0 ≤ i ∧ i ≤ B
  len0 : h.rows ≠ []
  len : h.rows.length ≤ M
  row : ∀ r ∈ h.rows, r.1.length ≤ 10 ∧ PyData.strOk r.1 = true ∧ 0 ≤ r.2.1 ∧ r.2.1 ≤ B ∧ 0 ≤ r.2.2 ∧ r.2.2 ≤ B
def OkayH (B : Int) (M : Nat) (y : D) : Prop := (∃ n0 ds n2 n3 n4, y = .tuple [n0, .tuple ds, n2, n3, n4] ∧ (∀ n ∈ [n0, n2, n3, n4], GNum B n) ∧ ds.length ≤ M ∧ ∀ d ∈ ds, GRow B d) ∨ (isHarpF y = false ∧ Sm 40000 4 y ∧ ShortH y)
def Φ__law_bent : Fs := fun ys P _ => ∃ h : Hrp, ∃ B : Int, ∃ M : Nat, ys = [.bag, .d h.d] ∧ 100 ≤ B ∧ B ≤ 200000 ∧ M ≤ 100 ∧ BddH B M h ∧ ∀ y, OkayH (B + 1) (M + 1) y → P (.d y)
def top (i : Nat) : Stmt := PySem.Challenge.pw_sevenpedals_k01_first_faults_of_harps.main.body.getD i (.Pass ⟨0, 0, 0, 0⟩)
structure Bs (mg : Str → Option Value) : Prop where
  b_all : mg "all" = none
  b_bool : mg "bool" = none
  b_enumerate : mg "enumerate" = none
  b_int : mg "int" = none
  b_isinstance : mg "isinstance" = none
  b_len : mg "len" = none
  b_list : mg "list" = none
  b_range : mg "range" = none
  b_repr : mg "repr" = none
  b_sorted : mg "sorted" = none
  b_str : mg "str" = none
  b_tuple : mg "tuple" = none
  b_zip : mg "zip" = none
abbrev si_BadHarp : Stmt := inner (top 3) 0
set_option maxHeartbeats 4000000 in
theorem it_BadHarp {P : Program} (t : (P.main.scope.names.lookup ("super" : Str)).isSome = false) : IniT P si_BadHarp "where" "fault" := ⟨⟨_, _, _, _, _, _, _, _, _, _, _, _, _, _, _, rfl, rfl⟩, fun _ _ _ _ _ _ _ _ _ _ _ => rfl, rfl, rfl, rfl, rfl, by decide +kernel, rfl, rfl, rfl, rfl, rfl, t, by decide, by decide, by decide, by decide, by decide⟩
abbrev si_TooLarge : Stmt := inner (top 4) 0
set_option maxHeartbeats 4000000 in
theorem it_TooLarge {P : Program} (t : (P.main.scope.names.lookup ("super" : Str)).isSome = false) : IniT P si_TooLarge "what" "limit" := ⟨⟨_, _, _, _, _, _, _, _, _, _, _, _, _, _, _, rfl, rfl⟩, fun _ _ _ _ _ _ _ _ _ _ _ => rfl, rfl, rfl, rfl, rfl, by decide +kernel, rfl, rfl, rfl, rfl, rfl, t, by decide, by decide, by decide, by decide, by decide⟩
section
variable {P : Program} {w : World} {K : PySem.W.Frag} {mg : Str → Option Value} {base : Heap} {TT : List (Addr × Str)}
abbrev kc : Nat := 12
abbrev st_is_number : Stmt := top 9
def N_is_number : List Str := ["thing"]
theorem sc_is_number : FnScope N_is_number ["thing"] (defScope st_is_number) := ⟨rfl, rfl, rfl, by decide +kernel, rfl, by decide +kernel, by decide +kernel⟩
def w_is_number : WS := (wRet (wAnd (wIsi isIntD (wVar 0)) (wNot (wIsi isBoolD (wVar 0)))))
def V_is_number : Prop := ∀ (ys : List Val) (R : Val → Prop) (Ex : Xn → Prop), ys.length = 1 → ys.all argOk = true → Φ_is_number ys R Ex → w_is_number (endW R Ex) (start0 N_is_number ys)
set_option maxHeartbeats 4000000 in
theorem s_is_number (B : Bs mg) (S : Src K mg "is_number" "is_number" st_is_number ["thing"]) (v : V_is_number) : Dfn P w K mg base TT kc "is_number" 1 1 Φ_is_number := by
  refine dfn_of (k := 0) S sc_is_number (fun f cdv A outer s H E Z ow hm hc hr hT gr => ?_) v
  have tk := takes_of (X := cxOf (L2.CX P w) P w K mg base N_is_number "is_number" (defScope st_is_number) f cdv A outer s H E) rfl rfl rfl rfl
  have po : PassesOwn (model P w) (cxOf (L2.CX P w) P w K mg base N_is_number "is_number" (defScope st_is_number) f cdv A outer s H E).A (cxOf (L2.CX P w) P w K mg base N_is_number "is_number" (defScope st_is_number) f cdv A outer s H E).env (cxOf (L2.CX P w) P w K mg base N_is_number "is_number" (defScope st_is_number) f cdv A outer s H E).xe := passes_of rfl
  have hu := room_hu hr
  skip
  exact (sim_bone (sim_ret (sim_vand (sim_isi ci_int rfl B.b_isinstance rfl B.b_int (by decide +kernel) (sim_var 0)) (sim_vone (sim_vnot (sim_isi ci_bool rfl B.b_isinstance rfl B.b_bool (by decide +kernel) (sim_var 0)))))))
abbrev st_is_index : Stmt := top 10
def N_is_index : List Str := ["thing"]
theorem sc_is_index : FnScope N_is_index ["thing"] (defScope st_is_index) := ⟨rfl, rfl, rfl, by decide +kernel, rfl, by decide +kernel, by decide +kernel⟩
def w_is_index : WS := (wRet (wAnd (wCall 1 Φ_is_number (wCons (wVar 0) wNil)) (wOp opGe (wVar 0) (wC (.int 0)))))
def V_is_index : Prop := ∀ (ys : List Val) (R : Val → Prop) (Ex : Xn → Prop), ys.length = 1 → ys.all argOk = true → Φ_is_index ys R Ex → w_is_index (endW R Ex) (start0 N_is_index ys)
set_option maxHeartbeats 4000000 in
theorem s_is_index (B : Bs mg) (S : Src K mg "is_index" "is_index" st_is_index ["thing"]) (d_is_number : Dfn P w K mg base TT kc "is_number" 1 1 Φ_is_number) (v : V_is_index) : Dfn P w K mg base TT kc "is_index" 2 1 Φ_is_index := by
  refine dfn_of (k := 1) S sc_is_index (fun f cdv A outer s H E Z ow hm hc hr hT gr => ?_) v
  have tk := takes_of (X := cxOf (L2.CX P w) P w K mg base N_is_index "is_index" (defScope st_is_index) f cdv A outer s H E) rfl rfl rfl rfl
  have po : PassesOwn (model P w) (cxOf (L2.CX P w) P w K mg base N_is_index "is_index" (defScope st_is_index) f cdv A outer s H E).A (cxOf (L2.CX P w) P w K mg base N_is_index "is_index" (defScope st_is_index) f cdv A outer s H E).env (cxOf (L2.CX P w) P w K mg base N_is_index "is_index" (defScope st_is_index) f cdv A outer s H E).xe := passes_of rfl
  have hu := room_hu hr
  skip
  exact (sim_bone (sim_ret (sim_vand (sim_callD d_is_number hT hr (by decide) tk rfl (sim_cons (sim_var 0) sim_nil)) (sim_vone (sim_cmp or_ge (sim_var 0) sim_int)))))
abbrev st_is_name : Stmt := top 11
def N_is_name : List Str := ["thing", "sign"]
theorem sc_is_name : FnScope N_is_name ["thing"] (defScope st_is_name) := ⟨rfl, rfl, rfl, by decide +kernel, rfl, by decide +kernel, by decide +kernel⟩
def psc_is_name_32_15 : Scope := { kind := PySem.ScopeKind.function, names := [ (PySem.Str.ofString ".0", PySem.NameKind.local), (PySem.Str.ofString "sign", PySem.NameKind.local), (PySem.Str.ofString "LETTERS", PySem.NameKind.globalImplicit)], isGenerator := false, isCoroutine := false, more := [] : PySem.Scope }
def w_is_name : WS := (wSeq (wIfS (wTor (wTnot (wTv (wIsi isStrD (wVar 0)))) (wTor (wTnot (wTv (wChain opLe opLe (wC (.int 2)) (wCB bLen (wCons (wVar 0) wNil)) (wC (.int 8))))) (wTv (wOp opIn (wVar 0) (wC (.tuple [(.str "hands"), (.str "left"), (.str "letter"), (.str "note"), (.str "right"), (.str "round"), (.str "strings"), (.str "ticks")])))))) (wRet (wC (.bool false))) wSkip) (wRet (wCB bAll (wCons (wLc (wItS (wVar 0)) (bName 1) wYes (wOp opIn (wVar 1) (wC (.str "abcdefghijklmnopqrstuvwxyz"))) [1]) wNil))))
def V_is_name : Prop := ∀ (ys : List Val) (R : Val → Prop) (Ex : Xn → Prop), ys.length = 1 → ys.all argOk = true → Φ_is_name ys R Ex → w_is_name (endW R Ex) (start0 N_is_name ys)
set_option maxHeartbeats 4000000 in
theorem s_is_name (B : Bs mg) (S : Src K mg "is_name" "is_name" st_is_name ["thing"]) (q_LETTERS : GlC K mg "LETTERS" (.str "abcdefghijklmnopqrstuvwxyz")) (q_MOST_LETTERS_forms : GlC K mg "MOST_LETTERS_forms" (.int 8)) (q_RESERVED : GlC K mg "RESERVED" (.tuple [(.str "hands"), (.str "left"), (.str "letter"), (.str "note"), (.str "right"), (.str "round"), (.str "strings"), (.str "ticks")])) (v : V_is_name) : Dfn P w K mg base TT kc "is_name" 1 1 Φ_is_name := by
  refine dfn_of (k := 0) S sc_is_name (fun f cdv A outer s H E Z ow hm hc hr hT gr => ?_) v
  have tk := takes_of (X := cxOf (L2.CX P w) P w K mg base N_is_name "is_name" (defScope st_is_name) f cdv A outer s H E) rfl rfl rfl rfl
  have po : PassesOwn (model P w) (cxOf (L2.CX P w) P w K mg base N_is_name "is_name" (defScope st_is_name) f cdv A outer s H E).A (cxOf (L2.CX P w) P w K mg base N_is_name "is_name" (defScope st_is_name) f cdv A outer s H E).env (cxOf (L2.CX P w) P w K mg base N_is_name "is_name" (defScope st_is_name) f cdv A outer s H E).xe := passes_of rfl
  have hu := room_hu hr
  skip
  exact (sim_bcons (sim_if (SimW.t (sim_or (sim_tnot (sim_tv (sim_isi ci_str rfl B.b_isinstance rfl B.b_str (by decide +kernel) (sim_var 0)))) (sim_or (sim_tnot (sim_tchain or_le or_le sim_int (sim_callB cd_len rfl B.b_len (by decide +kernel) (sim_cons (sim_var 0) sim_nil)) (sim_globC rfl q_MOST_LETTERS_forms))) (sim_or1 (sim_tcmp (or_in (room_hu hr)) (sim_var 0) (sim_globC rfl q_RESERVED)))))) (sim_bone (sim_ret sim_bl)) sim_bnil) (sim_bone (sim_ret (sim_callB (cd_all rfl) rfl B.b_all (by decide +kernel) (sim_cons (sim_lc (own := [("sign", 1)]) rfl sc_is_name.nd gr (sim_itS (sim_var 0)) (blkOk_by (N := N_is_name) (sc := defScope st_is_name) (by decide +kernel)) (by decide) (fun s H C cl fp => (sim_bname 1 sc_is_name.nd)) (fun s H C cl fp => sim_tsnil) (fun s H C cl fp => (sim_cmp (or_in (room_hu hr)) (sim_var 1) (sim_globC rfl q_LETTERS)))) sim_nil)))))
abbrev st_is_sized : Stmt := top 12
def N_is_sized : List Str := ["thing", "many"]
theorem sc_is_sized : FnScope N_is_sized ["thing", "many"] (defScope st_is_sized) := ⟨rfl, rfl, rfl, by decide +kernel, rfl, by decide +kernel, by decide +kernel⟩
def w_is_sized : WS := (wRet (wAnd (wIsi isTupleD (wVar 0)) (wOp opEq (wCB bLen (wCons (wVar 0) wNil)) (wVar 1))))
def V_is_sized : Prop := ∀ (ys : List Val) (R : Val → Prop) (Ex : Xn → Prop), ys.length = 2 → ys.all argOk = true → Φ_is_sized ys R Ex → w_is_sized (endW R Ex) (start0 N_is_sized ys)
set_option maxHeartbeats 4000000 in
theorem s_is_sized (B : Bs mg) (S : Src K mg "is_sized" "is_sized" st_is_sized ["thing", "many"]) (v : V_is_sized) : Dfn P w K mg base TT kc "is_sized" 1 2 Φ_is_sized := by
  refine dfn_of (k := 0) S sc_is_sized (fun f cdv A outer s H E Z ow hm hc hr hT gr => ?_) v
  have tk := takes_of (X := cxOf (L2.CX P w) P w K mg base N_is_sized "is_sized" (defScope st_is_sized) f cdv A outer s H E) rfl rfl rfl rfl
  have po : PassesOwn (model P w) (cxOf (L2.CX P w) P w K mg base N_is_sized "is_sized" (defScope st_is_sized) f cdv A outer s H E).A (cxOf (L2.CX P w) P w K mg base N_is_sized "is_sized" (defScope st_is_sized) f cdv A outer s H E).env (cxOf (L2.CX P w) P w K mg base N_is_sized "is_sized" (defScope st_is_sized) f cdv A outer s H E).xe := passes_of rfl
  have hu := room_hu hr
  skip
  exact (sim_bone (sim_ret (sim_vand (sim_isi ci_tuple rfl B.b_isinstance rfl B.b_tuple (by decide +kernel) (sim_var 0)) (sim_vone (sim_cmp (or_eq (room_hu hr)) (sim_callB cd_len rfl B.b_len (by decide +kernel) (sim_cons (sim_var 0) sim_nil)) (sim_var 1))))))
abbrev st_is_tuple_of : Stmt := top 13
def N_is_tuple_of : List Str := ["thing", "is_one", "one"]
theorem sc_is_tuple_of : FnScope N_is_tuple_of ["thing", "is_one"] (defScope st_is_tuple_of) := ⟨rfl, rfl, rfl, by decide +kernel, rfl, by decide +kernel, by decide +kernel⟩
def psc_is_tuple_of_36_44 : Scope := { kind := PySem.ScopeKind.function, names := [ (PySem.Str.ofString ".0", PySem.NameKind.local), (PySem.Str.ofString "one", PySem.NameKind.local), (PySem.Str.ofString "is_one", PySem.NameKind.free)], isGenerator := false, isCoroutine := false, more := [] : PySem.Scope }
def w_is_tuple_of : WS := (wRet (wAnd (wIsi isTupleD (wVar 0)) (wCB bAll (wCons (wLc (wIt (wVar 0)) (bName 2) wYes (wCallV 1 (wVar 2)) [2]) wNil))))
def V_is_tuple_of : Prop := ∀ (ys : List Val) (R : Val → Prop) (Ex : Xn → Prop), ys.length = 2 → ys.all argOk = true → Φ_is_tuple_of ys R Ex → w_is_tuple_of (endW R Ex) (start0 N_is_tuple_of ys)
set_option maxHeartbeats 4000000 in
theorem s_is_tuple_of (B : Bs mg) (S : Src K mg "is_tuple_of" "is_tuple_of" st_is_tuple_of ["thing", "is_one"]) (v : V_is_tuple_of) : Dfn P w K mg base TT kc "is_tuple_of" 13 2 Φ_is_tuple_of := by
  refine dfn_of (k := 12) S sc_is_tuple_of (fun f cdv A outer s H E Z ow hm hc hr hT gr => ?_) v
  have tk := takes_of (X := cxOf (L2.CX P w) P w K mg base N_is_tuple_of "is_tuple_of" (defScope st_is_tuple_of) f cdv A outer s H E) rfl rfl rfl rfl
  have po : PassesOwn (model P w) (cxOf (L2.CX P w) P w K mg base N_is_tuple_of "is_tuple_of" (defScope st_is_tuple_of) f cdv A outer s H E).A (cxOf (L2.CX P w) P w K mg base N_is_tuple_of "is_tuple_of" (defScope st_is_tuple_of) f cdv A outer s H E).env (cxOf (L2.CX P w) P w K mg base N_is_tuple_of "is_tuple_of" (defScope st_is_tuple_of) f cdv A outer s H E).xe := passes_of rfl
  have hu := room_hu hr
  skip
  exact (sim_bone (sim_ret (sim_vand (sim_isi ci_tuple rfl B.b_isinstance rfl B.b_tuple (by decide +kernel) (sim_var 0)) (sim_vone (sim_callB (cd_all rfl) rfl B.b_all (by decide +kernel) (sim_cons (sim_lc (own := [("one", 2)]) rfl sc_is_tuple_of.nd gr (sim_it (sim_var 0)) (blkOk_by (N := N_is_tuple_of) (sc := defScope st_is_tuple_of) (by decide +kernel)) (by decide) (fun s H C cl fp => (sim_bname 2 sc_is_tuple_of.nd)) (fun s H C cl fp => sim_tsnil) (fun s H C cl fp => (sim_callV 1 (hr.mono (by decide)) (sim_var 2) LamX.takes0))) sim_nil))))))
abbrev st_is_letter : Stmt := top 14
def N_is_letter : List Str := ["thing"]
theorem sc_is_letter : FnScope N_is_letter ["thing"] (defScope st_is_letter) := ⟨rfl, rfl, rfl, by decide +kernel, rfl, by decide +kernel, by decide +kernel⟩
def w_is_letter : WS := (wRet (wAnd (wCall 2 Φ_is_sized (wCons (wVar 0) (wCons (wC (.int 3)) wNil))) (wAnd (wCall 1 Φ_is_name (wCons (wOp opIx (wVar 0) (wC (.int 0))) wNil)) (wAnd (wCall 1 Φ_is_index (wCons (wOp opIx (wVar 0) (wC (.int 1))) wNil)) (wCall 1 Φ_is_index (wCons (wOp opIx (wVar 0) (wC (.int 2))) wNil))))))
def V_is_letter : Prop := ∀ (ys : List Val) (R : Val → Prop) (Ex : Xn → Prop), ys.length = 1 → ys.all argOk = true → Φ_is_letter ys R Ex → w_is_letter (endW R Ex) (start0 N_is_letter ys)
set_option maxHeartbeats 4000000 in
theorem s_is_letter (B : Bs mg) (S : Src K mg "is_letter" "is_letter" st_is_letter ["thing"]) (d_is_sized : Dfn P w K mg base TT kc "is_sized" 1 2 Φ_is_sized) (d_is_name : Dfn P w K mg base TT kc "is_name" 1 1 Φ_is_name) (d_is_index : Dfn P w K mg base TT kc "is_index" 2 1 Φ_is_index) (v : V_is_letter) : Dfn P w K mg base TT kc "is_letter" 3 1 Φ_is_letter := by
  refine dfn_of (k := 2) S sc_is_letter (fun f cdv A outer s H E Z ow hm hc hr hT gr => ?_) v
  have tk := takes_of (X := cxOf (L2.CX P w) P w K mg base N_is_letter "is_letter" (defScope st_is_letter) f cdv A outer s H E) rfl rfl rfl rfl
  have po : PassesOwn (model P w) (cxOf (L2.CX P w) P w K mg base N_is_letter "is_letter" (defScope st_is_letter) f cdv A outer s H E).A (cxOf (L2.CX P w) P w K mg base N_is_letter "is_letter" (defScope st_is_letter) f cdv A outer s H E).env (cxOf (L2.CX P w) P w K mg base N_is_letter "is_letter" (defScope st_is_letter) f cdv A outer s H E).xe := passes_of rfl
  have hu := room_hu hr
  skip
  exact (sim_bone (sim_ret (sim_vand (sim_callD d_is_sized hT hr (by decide) tk rfl (sim_cons (sim_var 0) (sim_cons sim_int sim_nil))) (sim_vand (sim_callD d_is_name hT hr (by decide) tk rfl (sim_cons (sim_ix (sim_var 0) sim_int) sim_nil)) (sim_vand (sim_callD d_is_index hT hr (by decide) tk rfl (sim_cons (sim_ix (sim_var 0) sim_int) sim_nil)) (sim_vone (sim_callD d_is_index hT hr (by decide) tk rfl (sim_cons (sim_ix (sim_var 0) sim_int) sim_nil))))))))
abbrev st_is_harp_form : Stmt := top 15
def N_is_harp_form : List Str := ["thing", "at"]
theorem sc_is_harp_form : FnScope N_is_harp_form ["thing"] (defScope st_is_harp_form) := ⟨rfl, rfl, rfl, by decide +kernel, rfl, by decide +kernel, by decide +kernel⟩
def psc_is_harp_form_42_15 : Scope := { kind := PySem.ScopeKind.function, names := [ (PySem.Str.ofString ".0", PySem.NameKind.local), (PySem.Str.ofString "at", PySem.NameKind.local), (PySem.Str.ofString "is_index", PySem.NameKind.globalImplicit), (PySem.Str.ofString "thing", PySem.NameKind.free)], isGenerator := false, isCoroutine := false, more := [] : PySem.Scope }
def w_is_harp_form : WS := (wSeq (wIfS (wTor (wTnot (wTv (wCall 2 Φ_is_sized (wCons (wVar 0) (wCons (wC (.int 5)) wNil))))) (wTnot (wTv (wCall 2 Φ_is_tuple_of (wCons (wOp opIx (wVar 0) (wC (.int 1))) (wCons (wFnA φ_is_letter) wNil)))))) (wRet (wC (.bool false))) wSkip) (wRet (wCB bAll (wCons (wLc (wIt (wTup (wCons (wC (.int 0)) (wCons (wC (.int 2)) (wCons (wC (.int 3)) (wCons (wC (.int 4)) wNil)))))) (bName 1) wYes (wCall 1 Φ_is_index (wCons (wOp opIx (wVar 0) (wVar 1)) wNil)) [1]) wNil))))
def V_is_harp_form : Prop := ∀ (ys : List Val) (R : Val → Prop) (Ex : Xn → Prop), ys.length = 1 → ys.all argOk = true → Φ_is_harp_form ys R Ex → w_is_harp_form (endW R Ex) (start0 N_is_harp_form ys)
set_option maxHeartbeats 4000000 in
theorem s_is_harp_form (B : Bs mg) (S : Src K mg "is_harp_form" "is_harp_form" st_is_harp_form ["thing"]) (d_is_sized : Dfn P w K mg base TT kc "is_sized" 1 2 Φ_is_sized) (d_is_tuple_of : Dfn P w K mg base TT kc "is_tuple_of" 13 2 Φ_is_tuple_of) (d_is_letter : Dfn P w K mg base TT kc "is_letter" 3 1 Φ_is_letter) (d_is_index : Dfn P w K mg base TT kc "is_index" 2 1 Φ_is_index) (v : V_is_harp_form) : Dfn P w K mg base TT kc "is_harp_form" 14 1 Φ_is_harp_form := by
  refine dfn_of (k := 13) S sc_is_harp_form (fun f cdv A outer s H E Z ow hm hc hr hT gr => ?_) v
  have tk := takes_of (X := cxOf (L2.CX P w) P w K mg base N_is_harp_form "is_harp_form" (defScope st_is_harp_form) f cdv A outer s H E) rfl rfl rfl rfl
  have po : PassesOwn (model P w) (cxOf (L2.CX P w) P w K mg base N_is_harp_form "is_harp_form" (defScope st_is_harp_form) f cdv A outer s H E).A (cxOf (L2.CX P w) P w K mg base N_is_harp_form "is_harp_form" (defScope st_is_harp_form) f cdv A outer s H E).env (cxOf (L2.CX P w) P w K mg base N_is_harp_form "is_harp_form" (defScope st_is_harp_form) f cdv A outer s H E).xe := passes_of rfl
  have hu := room_hu hr
  skip
  exact (sim_bcons (sim_if (SimW.t (sim_or (sim_tnot (sim_tv (sim_callD d_is_sized hT hr (by decide) tk rfl (sim_cons (sim_var 0) (sim_cons sim_int sim_nil))))) (sim_or1 (sim_tnot (sim_tv (sim_callD d_is_tuple_of hT hr (by decide) tk rfl (sim_cons (sim_ix (sim_var 0) sim_int) (sim_cons (sim_fnA d_is_letter hT (by decide) rfl φ_is_letter_ok) sim_nil)))))))) (sim_bone (sim_ret sim_bl)) sim_bnil) (sim_bone (sim_ret (sim_callB (cd_all rfl) rfl B.b_all (by decide +kernel) (sim_cons (sim_lc (own := [("at", 1)]) rfl sc_is_harp_form.nd gr (sim_it (sim_tup (sim_cons sim_int (sim_cons sim_int (sim_cons sim_int (sim_cons sim_int sim_nil)))))) (blkOk_by (N := N_is_harp_form) (sc := defScope st_is_harp_form) (by decide +kernel)) (by decide) (fun s H C cl fp => (sim_bname 1 sc_is_harp_form.nd)) (fun s H C cl fp => sim_tsnil) (fun s H C cl fp => (sim_callD d_is_index hT hr (by decide) LamX.takes0 rfl (sim_cons (sim_ix (sim_var 0) (sim_var 1)) sim_nil)))) sim_nil)))))
abbrev st_check_number : Stmt := top 22
def N_check_number : List Str := ["word", "number", "least", "most"]
theorem sc_check_number : FnScope N_check_number ["word", "number", "least", "most"] (defScope st_check_number) := ⟨rfl, rfl, rfl, by decide +kernel, rfl, by decide +kernel, by decide +kernel⟩
def w_check_number : WS := (wSeq (wIfS (wTv (wOp opLt (wVar 1) (wVar 2))) (wRaise2 "BadHarp" "where" "fault" (wCons (wVar 0) (wCons (wC (.str "few")) wNil))) wSkip) (wIfS (wTv (wOp opGt (wVar 1) (wVar 3))) (wRaise2 "TooLarge" "what" "limit" (wCons (wVar 0) (wCons (wVar 3) wNil))) wSkip))
def V_check_number : Prop := ∀ (ys : List Val) (R : Val → Prop) (Ex : Xn → Prop), ys.length = 4 → ys.all argOk = true → Φ_check_number ys R Ex → w_check_number (endW R Ex) (start0 N_check_number ys)
set_option maxHeartbeats 4000000 in
theorem s_check_number (B : Bs mg) (S : Src K mg "check_number" "check_number" st_check_number ["word", "number", "least", "most"]) (y_BadHarp : XCls2 P K mg "BadHarp" "where" "fault") (y_TooLarge : XCls2 P K mg "TooLarge" "what" "limit") (v : V_check_number) : Dfn P w K mg base TT kc "check_number" 3 4 Φ_check_number := by
  refine dfn_of (k := 2) S sc_check_number (fun f cdv A outer s H E Z ow hm hc hr hT gr => ?_) v
  have tk := takes_of (X := cxOf (L2.CX P w) P w K mg base N_check_number "check_number" (defScope st_check_number) f cdv A outer s H E) rfl rfl rfl rfl
  have po : PassesOwn (model P w) (cxOf (L2.CX P w) P w K mg base N_check_number "check_number" (defScope st_check_number) f cdv A outer s H E).A (cxOf (L2.CX P w) P w K mg base N_check_number "check_number" (defScope st_check_number) f cdv A outer s H E).env (cxOf (L2.CX P w) P w K mg base N_check_number "check_number" (defScope st_check_number) f cdv A outer s H E).xe := passes_of rfl
  have hu := room_hu hr
  skip
  exact (sim_bcons (sim_if (sim_tcmp or_lt (sim_var 1) (sim_var 2)) (sim_bone (sim_raise2 rfl tk y_BadHarp (hr.mono (by decide)) rfl (sim_cons (sim_var 0) (sim_cons sim_str sim_nil)))) sim_bnil) (sim_bone (sim_if (sim_tcmp or_gt (sim_var 1) (sim_var 3)) (sim_bone (sim_raise2 rfl tk y_TooLarge (hr.mono (by decide)) rfl (sim_cons (sim_var 0) (sim_cons (sim_var 3) sim_nil)))) sim_bnil)))
abbrev st_check_letters : Stmt := top 23
def N_check_letters : List Str := ["harp", "known", "last", "name", "base", "foot"]
theorem sc_check_letters : FnScope N_check_letters ["harp"] (defScope st_check_letters) := ⟨rfl, rfl, rfl, by decide +kernel, rfl, by decide +kernel, by decide +kernel⟩
def w_check_letters_1 : WS := (wSeq (wIfS (wTv (wOp opGt (wVar 5) (wC (.int 1)))) (wRaise2 "BadHarp" "where" "fault" (wCons (wVar 3) (wCons (wC (.str "foot")) wNil))) wSkip) (wAsgG (gTp (gCn (gSb 1 (wpRoot 1) (wVar 3)) (gCn (gB (bName 2)) gNl)) 2) (wTup (wCons (wC (.bool true)) (wCons (wVar 4) wNil)))))
def w_check_letters_2 : WS := (wSeq (wIfS (wTor (wTv (wOp opLe (wVar 4) (wVar 2))) (wTv (wOp opGe (wVar 4) (wOp opIx (wVar 0) (wC (.int 0)))))) (wRaise2 "BadHarp" "where" "fault" (wCons (wVar 3) (wCons (wC (.str "base")) wNil))) wSkip) w_check_letters_1)
def w_check_letters : WS := (wSeq (wUnp [1, 2] (wUcons (wDNew .k) (wUcons (wNeg (wC (.int 1))) wNil))) (wFor (wIt (wOp opIx (wVar 0) (wC (.int 1)))) (bTup (bCons (bName 3) (bCons (bName 4) (bCons (bName 5) bNil)))) (wSeq (wIfS (wTv (wOp (opInT false) (wVar 3) (wVar 1))) (wRaise2 "BadHarp" "where" "fault" (wCons (wVar 3) (wCons (wC (.str "twice")) wNil))) wSkip) w_check_letters_2)))
def V_check_letters : Prop := ∀ (ys : List Val) (R : Val → Prop) (Ex : Xn → Prop), ys.length = 1 → ys.all argOk = true → Φ_check_letters ys R Ex → w_check_letters (endW R Ex) (start0 N_check_letters ys)
set_option maxHeartbeats 4000000 in
theorem s_check_letters (B : Bs mg) (S : Src K mg "check_letters" "check_letters" st_check_letters ["harp"]) (y_BadHarp : XCls2 P K mg "BadHarp" "where" "fault") (v : V_check_letters) : Dfn P w K mg base TT kc "check_letters" 3 1 Φ_check_letters := by
  refine dfn_of (k := 2) S sc_check_letters (fun f cdv A outer s H E Z ow hm hc hr hT gr => ?_) v
  have tk := takes_of (X := cxOf (L2.CX P w) P w K mg base N_check_letters "check_letters" (defScope st_check_letters) f cdv A outer s H E) rfl rfl rfl rfl
  have po : PassesOwn (model P w) (cxOf (L2.CX P w) P w K mg base N_check_letters "check_letters" (defScope st_check_letters) f cdv A outer s H E).A (cxOf (L2.CX P w) P w K mg base N_check_letters "check_letters" (defScope st_check_letters) f cdv A outer s H E).env (cxOf (L2.CX P w) P w K mg base N_check_letters "check_letters" (defScope st_check_letters) f cdv A outer s H E).xe := passes_of rfl
  have hu := room_hu hr
  skip
  exact (sim_bcons (sim_unp2 1 2 rfl (sim_ucons sim_dnewK (sim_ucons (sim_neg sim_int) sim_unil)) sc_check_letters.nd) (sim_bone (sim_for po rfl (sim_it (sim_ix (sim_var 0) sim_int)) (sim_btup rfl (sim_btcons (sim_bname 3 sc_check_letters.nd) (sim_btcons (sim_bname 4 sc_check_letters.nd) (sim_btcons (sim_bname 5 sc_check_letters.nd) sim_btnil))) (bCons_len bName_has (bCons_len bName_has (bCons_len bName_has bNil_len)))) (sim_bcons (sim_if (sim_tcmp (or_inT (room_hu hr)) (sim_var 3) (sim_var 1)) (sim_bone (sim_raise2 rfl tk y_BadHarp (hr.mono (by decide)) rfl (sim_cons (sim_var 3) (sim_cons sim_str sim_nil)))) sim_bnil) (sim_bcons (sim_if (SimW.t (sim_or (sim_tcmp or_le (sim_var 4) (sim_var 2)) (sim_or1 (sim_tcmp or_ge (sim_var 4) (sim_ix (sim_var 0) sim_int))))) (sim_bone (sim_raise2 rfl tk y_BadHarp (hr.mono (by decide)) rfl (sim_cons (sim_var 3) (sim_cons sim_str sim_nil)))) sim_bnil) (sim_bcons (sim_if (sim_tcmp or_gt (sim_var 5) sim_int) (sim_bone (sim_raise2 rfl tk y_BadHarp (hr.mono (by decide)) rfl (sim_cons (sim_var 3) (sim_cons sim_str sim_nil)))) sim_bnil) (sim_bone (sim_asgG (sim_tup (sim_cons sim_bl (sim_cons (sim_var 4) sim_nil))) (sim_gtup rfl (sim_gcons (sim_gsub 1 (hu1 (room_hu hr)) (sim_proot 1) (sim_var 3)) (sim_gcons (sim_gB (sim_bname 2 sc_check_letters.nd)) sim_gnil)))))))))))
abbrev st_checked_harp : Stmt := top 24
def N_checked_harp : List Str := ["thing"]
theorem sc_checked_harp : FnScope N_checked_harp ["thing"] (defScope st_checked_harp) := ⟨rfl, rfl, rfl, by decide +kernel, rfl, by decide +kernel, by decide +kernel⟩
def w_checked_harp_1 : WS := (wSeq (wDo (wCall 4 Φ_check_number (wCons (wC (.str "reach")) (wCons (wOp opIx (wVar 0) (wC (.int 4))) (wCons (wC (.int 0)) (wCons (wC (.int 59)) wNil)))))) (wRet (wVar 0)))
def w_checked_harp_2 : WS := (wSeq (wDo (wCall 4 Φ_check_number (wCons (wC (.str "fingers")) (wCons (wOp opIx (wVar 0) (wC (.int 3))) (wCons (wC (.int 1)) (wCons (wC (.int 5)) wNil)))))) w_checked_harp_1)
def w_checked_harp_3 : WS := (wSeq (wDo (wCall 4 Φ_check_number (wCons (wC (.str "strings")) (wCons (wOp opIx (wVar 0) (wC (.int 2))) (wCons (wC (.int 1)) (wCons (wC (.int 60)) wNil)))))) w_checked_harp_2)
def w_checked_harp_4 : WS := (wSeq (wDo (wCall 1 Φ_check_letters (wCons (wVar 0) wNil))) w_checked_harp_3)
def w_checked_harp_5 : WS := (wSeq (wDo (wCall 4 Φ_check_number (wCons (wC (.str "letters")) (wCons (wCB bLen (wCons (wOp opIx (wVar 0) (wC (.int 1))) wNil)) (wCons (wC (.int 2)) (wCons (wC (.int 9)) wNil)))))) w_checked_harp_4)
def w_checked_harp_6 : WS := (wSeq (wDo (wCall 4 Φ_check_number (wCons (wC (.str "round")) (wCons (wOp opIx (wVar 0) (wC (.int 0))) (wCons (wC (.int 2)) (wCons (wC (.int 24)) wNil)))))) w_checked_harp_5)
def w_checked_harp : WS := (wSeq (wIfS (wTnot (wTv (wCall 1 Φ_is_harp_form (wCons (wVar 0) wNil)))) (wRaise2 "BadHarp" "where" "fault" (wCons (wC (.str "")) (wCons (wC (.str "form")) wNil))) wSkip) w_checked_harp_6)
def V_checked_harp : Prop := ∀ (ys : List Val) (R : Val → Prop) (Ex : Xn → Prop), ys.length = 1 → ys.all argOk = true → Φ_checked_harp ys R Ex → w_checked_harp (endW R Ex) (start0 N_checked_harp ys)
set_option maxHeartbeats 4000000 in
theorem s_checked_harp (B : Bs mg) (S : Src K mg "checked_harp" "checked_harp" st_checked_harp ["thing"]) (d_is_harp_form : Dfn P w K mg base TT kc "is_harp_form" 14 1 Φ_is_harp_form) (d_check_number : Dfn P w K mg base TT kc "check_number" 3 4 Φ_check_number) (d_check_letters : Dfn P w K mg base TT kc "check_letters" 3 1 Φ_check_letters) (y_BadHarp : XCls2 P K mg "BadHarp" "where" "fault") (q_MOST_FINGERS : GlC K mg "MOST_FINGERS" (.int 5)) (q_MOST_LETTERS_harps : GlC K mg "MOST_LETTERS_harps" (.int 9)) (q_MOST_REACH : GlC K mg "MOST_REACH" (.int 59)) (q_MOST_ROUND : GlC K mg "MOST_ROUND" (.int 24)) (q_MOST_STRINGS : GlC K mg "MOST_STRINGS" (.int 60)) (v : V_checked_harp) : Dfn P w K mg base TT kc "checked_harp" 15 1 Φ_checked_harp := by
  refine dfn_of (k := 14) S sc_checked_harp (fun f cdv A outer s H E Z ow hm hc hr hT gr => ?_) v
  have tk := takes_of (X := cxOf (L2.CX P w) P w K mg base N_checked_harp "checked_harp" (defScope st_checked_harp) f cdv A outer s H E) rfl rfl rfl rfl
  have po : PassesOwn (model P w) (cxOf (L2.CX P w) P w K mg base N_checked_harp "checked_harp" (defScope st_checked_harp) f cdv A outer s H E).A (cxOf (L2.CX P w) P w K mg base N_checked_harp "checked_harp" (defScope st_checked_harp) f cdv A outer s H E).env (cxOf (L2.CX P w) P w K mg base N_checked_harp "checked_harp" (defScope st_checked_harp) f cdv A outer s H E).xe := passes_of rfl
  have hu := room_hu hr
  skip
  exact (sim_bcons (sim_if (sim_tnot (sim_tv (sim_callD d_is_harp_form hT hr (by decide) tk rfl (sim_cons (sim_var 0) sim_nil)))) (sim_bone (sim_raise2 rfl tk y_BadHarp (hr.mono (by decide)) rfl (sim_cons sim_str (sim_cons sim_str sim_nil)))) sim_bnil) (sim_bcons (sim_do (sim_callD d_check_number hT hr (by decide) tk rfl (sim_cons sim_str (sim_cons (sim_ix (sim_var 0) sim_int) (sim_cons sim_int (sim_cons (sim_globC rfl q_MOST_ROUND) sim_nil)))))) (sim_bcons (sim_do (sim_callD d_check_number hT hr (by decide) tk rfl (sim_cons sim_str (sim_cons (sim_callB cd_len rfl B.b_len (by decide +kernel) (sim_cons (sim_ix (sim_var 0) sim_int) sim_nil)) (sim_cons sim_int (sim_cons (sim_globC rfl q_MOST_LETTERS_harps) sim_nil)))))) (sim_bcons (sim_do (sim_callD d_check_letters hT hr (by decide) tk rfl (sim_cons (sim_var 0) sim_nil))) (sim_bcons (sim_do (sim_callD d_check_number hT hr (by decide) tk rfl (sim_cons sim_str (sim_cons (sim_ix (sim_var 0) sim_int) (sim_cons sim_int (sim_cons (sim_globC rfl q_MOST_STRINGS) sim_nil)))))) (sim_bcons (sim_do (sim_callD d_check_number hT hr (by decide) tk rfl (sim_cons sim_str (sim_cons (sim_ix (sim_var 0) sim_int) (sim_cons sim_int (sim_cons (sim_globC rfl q_MOST_FINGERS) sim_nil)))))) (sim_bcons (sim_do (sim_callD d_check_number hT hr (by decide) tk rfl (sim_cons sim_str (sim_cons (sim_ix (sim_var 0) sim_int) (sim_cons sim_int (sim_cons (sim_globC rfl q_MOST_REACH) sim_nil)))))) (sim_bone (sim_ret (sim_var 0))))))))))
abbrev st__law_take : Stmt := top 27
def N__law_take : List Str := ["bag", "many", "cell", "stirred", "value", "begin", "second"]
theorem sc__law_take : FnScope N__law_take ["bag", "many"] (defScope st__law_take) := ⟨rfl, rfl, rfl, by decide +kernel, rfl, by decide +kernel, by decide +kernel⟩
def w__law_take_1 : WS := (wSeq (wSetD 3 (wOp opAdd (wOp opAdd (wOp opMul (wBag 0 1) (wC (.int 48271))) (wOp opMod (wCB bInt (wCons (wVar 2) wNil)) (wC (.int 2147483647)))) (wOp opMul (wC (.int 7919)) (wBag 0 2)))) (wBagSet 0 1 (wOp opMod (wCB bInt (wCons (wVar 3) wNil)) (wC (.int 2147483647)))))
def w__law_take_2 : WS := (wSeq (wIfS (wTv (wOp opGe (wVar 2) (wOp opPow (wC (.int 10)) (wC (.int 18))))) (wBagSet 0 0 (wVar 2)) wSkip) w__law_take_1)
def w__law_take_3 : WS := (wSeq (wBagAdd 0 1) w__law_take_2)
def w__law_take_4 : WS := (wSeq (wBagSet 0 0 (wOp opFdiv (wCB bInt (wCons (wBag 0 0) wNil)) (wVar 1))) (wRet (wVar 4)))
def w__law_take_5 : WS := (wSeq (wSetD 6 (wOp opMod (wCB bInt (wCons (wOp opMul (wOp opMod (wCB bInt (wCons (wOp opMul (wVar 5) (wVar 5)) wNil)) (wC (.int 998244353))) (wC (.int 30011))) wNil)) (wC (.int 998244353)))) (wRet (wOp opMod (wCB bInt (wCons (wOp opFdiv (wVar 6) (wC (.int 7))) wNil)) (wVar 1))))
def w__law_take_6 : WS := (wSeq (wSetD 5 (wOp opMod (wCB bInt (wCons (wOp opMul (wOp opAdd (wBag 0 1) (wC (.int 1))) (wC (.int 39373))) wNil)) (wC (.int 1000000007)))) w__law_take_5)
def w__law_take_7 : WS := (wSeq (wIfS (wTv (wOp opGt (wBag 0 0) (wC (.int 0)))) (wSeq (wSetD 4 (wOp opMod (wCB bInt (wCons (wBag 0 0) wNil)) (wVar 1))) w__law_take_4) wSkip) w__law_take_6)
def w__law_take : WS := (wSeq (wIfS (wTv (wOp opEq (wBag 0 0) (wC (.int 0)))) (wSeq (wSetD 2 (wBagCell 0)) w__law_take_3) wSkip) w__law_take_7)
def V__law_take : Prop := ∀ (ys : List Val) (R : Val → Prop) (Ex : Xn → Prop), ys.length = 2 → ys.all argOk = true → Φ__law_take ys R Ex → w__law_take (endW R Ex) (start0 N__law_take ys)
set_option maxHeartbeats 4000000 in
theorem s__law_take (B : Bs mg) (S : Src K mg "_law_take" "_law_take" st__law_take ["bag", "many"]) (v : V__law_take) : Dfn P w K mg base TT kc "_law_take" 1 2 Φ__law_take := by
  refine dfn_of (k := 0) S sc__law_take (fun f cdv A outer s H E Z ow hm hc hr hT gr => ?_) v
  have tk := takes_of (X := cxOf (L2.CX P w) P w K mg base N__law_take "_law_take" (defScope st__law_take) f cdv A outer s H E) rfl rfl rfl rfl
  have po : PassesOwn (model P w) (cxOf (L2.CX P w) P w K mg base N__law_take "_law_take" (defScope st__law_take) f cdv A outer s H E).A (cxOf (L2.CX P w) P w K mg base N__law_take "_law_take" (defScope st__law_take) f cdv A outer s H E).env (cxOf (L2.CX P w) P w K mg base N__law_take "_law_take" (defScope st__law_take) f cdv A outer s H E).xe := passes_of rfl
  have hu := room_hu hr
  skip
  exact (sim_bcons (sim_if (sim_tcmp (or_eq (room_hu hr)) (sim_bag 0 (by decide)) sim_int) (sim_bcons (sim_setD 2 (sim_bagcell 0) sc__law_take.nd) (sim_bcons (sim_bagadd 0) (sim_bcons (sim_if (sim_tcmp or_ge (sim_var 2) (sim_op or_pow sim_int sim_int)) (sim_bone (sim_bagset 0 (by decide) (sim_var 2))) sim_bnil) (sim_bcons (sim_setD 3 (sim_op or_add (sim_op or_add (sim_op or_mul (sim_bag 0 (by decide)) sim_int) (sim_op or_mod (sim_callT cd_int rfl B.b_int (by decide +kernel) (sim_cons (sim_var 2) sim_nil)) sim_int)) (sim_op or_mul sim_int (sim_bag 0 (by decide)))) sc__law_take.nd) (sim_bone (sim_bagset 0 (by decide) (sim_op or_mod (sim_callT cd_int rfl B.b_int (by decide +kernel) (sim_cons (sim_var 3) sim_nil)) sim_int))))))) sim_bnil) (sim_bcons (sim_if (sim_tcmp or_gt (sim_bag 0 (by decide)) sim_int) (sim_bcons (sim_setD 4 (sim_op or_mod (sim_callT cd_int rfl B.b_int (by decide +kernel) (sim_cons (sim_bag 0 (by decide)) sim_nil)) (sim_var 1)) sc__law_take.nd) (sim_bcons (sim_bagset 0 (by decide) (sim_op or_fdiv (sim_callT cd_int rfl B.b_int (by decide +kernel) (sim_cons (sim_bag 0 (by decide)) sim_nil)) (sim_var 1))) (sim_bone (sim_ret (sim_var 4))))) sim_bnil) (sim_bcons (sim_setD 5 (sim_op or_mod (sim_callT cd_int rfl B.b_int (by decide +kernel) (sim_cons (sim_op or_mul (sim_op or_add (sim_bag 0 (by decide)) sim_int) sim_int) sim_nil)) sim_int) sc__law_take.nd) (sim_bcons (sim_setD 6 (sim_op or_mod (sim_callT cd_int rfl B.b_int (by decide +kernel) (sim_cons (sim_op or_mul (sim_op or_mod (sim_callT cd_int rfl B.b_int (by decide +kernel) (sim_cons (sim_op or_mul (sim_var 5) (sim_var 5)) sim_nil)) sim_int) sim_int) sim_nil)) sim_int) sc__law_take.nd) (sim_bone (sim_ret (sim_op or_mod (sim_callT cd_int rfl B.b_int (by decide +kernel) (sim_cons (sim_op or_fdiv (sim_var 6) sim_int) sim_nil)) (sim_var 1))))))))
abbrev st__law_some : Stmt := top 28
def N__law_some : List Str := ["bag", "things"]
theorem sc__law_some : FnScope N__law_some ["bag", "things"] (defScope st__law_some) := ⟨rfl, rfl, rfl, by decide +kernel, rfl, by decide +kernel, by decide +kernel⟩
def w__law_some : WS := (wRet (wOp opIx (wVar 1) (wCall 2 Φ__law_take (wCons (wVar 0) (wCons (wCB bLen (wCons (wVar 1) wNil)) wNil)))))
def V__law_some : Prop := ∀ (ys : List Val) (R : Val → Prop) (Ex : Xn → Prop), ys.length = 2 → ys.all argOk = true → Φ__law_some ys R Ex → w__law_some (endW R Ex) (start0 N__law_some ys)
set_option maxHeartbeats 4000000 in
theorem s__law_some (B : Bs mg) (S : Src K mg "_law_some" "_law_some" st__law_some ["bag", "things"]) (d__law_take : Dfn P w K mg base TT kc "_law_take" 1 2 Φ__law_take) (v : V__law_some) : Dfn P w K mg base TT kc "_law_some" 2 2 Φ__law_some := by
  refine dfn_of (k := 1) S sc__law_some (fun f cdv A outer s H E Z ow hm hc hr hT gr => ?_) v
  have tk := takes_of (X := cxOf (L2.CX P w) P w K mg base N__law_some "_law_some" (defScope st__law_some) f cdv A outer s H E) rfl rfl rfl rfl
  have po : PassesOwn (model P w) (cxOf (L2.CX P w) P w K mg base N__law_some "_law_some" (defScope st__law_some) f cdv A outer s H E).A (cxOf (L2.CX P w) P w K mg base N__law_some "_law_some" (defScope st__law_some) f cdv A outer s H E).env (cxOf (L2.CX P w) P w K mg base N__law_some "_law_some" (defScope st__law_some) f cdv A outer s H E).xe := passes_of rfl
  have hu := room_hu hr
  skip
  exact (sim_bone (sim_ret (sim_ix (sim_var 1) (sim_callD d__law_take hT hr (by decide) tk rfl (sim_cons (sim_var 0) (sim_cons (sim_callB cd_len rfl B.b_len (by decide +kernel) (sim_cons (sim_var 1) sim_nil)) sim_nil))))))
abbrev st__law_mixed : Stmt := top 29
def N__law_mixed : List Str := ["bag", "things", "found", "thing"]
theorem sc__law_mixed : FnScope N__law_mixed ["bag", "things"] (defScope st__law_mixed) := ⟨rfl, rfl, rfl, by decide +kernel, rfl, by decide +kernel, by decide +kernel⟩
def w__law_mixed_1 : WS := (wSeq (wFor (wItL (wVar 1)) (bName 3) (wMt 2 mInsert (wCons (wCall 2 Φ__law_take (wCons (wVar 0) (wCons (wOp opAdd (wCB bLen (wCons (wVar 2) wNil)) (wC (.int 1))) wNil))) (wCons (wVar 3) wNil)))) (wRetL 2))
def w__law_mixed : WS := (wSeq (wSet 2 (wLst wNil)) w__law_mixed_1)
def V__law_mixed : Prop := ∀ (ys : List Val) (R : Val → Prop) (Ex : Xn → Prop), ys.length = 2 → ys.all argOk = true → Φ__law_mixed ys R Ex → w__law_mixed (endW R Ex) (start0 N__law_mixed ys)
set_option maxHeartbeats 4000000 in
theorem s__law_mixed (B : Bs mg) (S : Src K mg "_law_mixed" "_law_mixed" st__law_mixed ["bag", "things"]) (d__law_take : Dfn P w K mg base TT kc "_law_take" 1 2 Φ__law_take) (v : V__law_mixed) : Dfn P w K mg base TT kc "_law_mixed" 2 2 Φ__law_mixed := by
  refine dfn_of (k := 1) S sc__law_mixed (fun f cdv A outer s H E Z ow hm hc hr hT gr => ?_) v
  have tk := takes_of (X := cxOf (L2.CX P w) P w K mg base N__law_mixed "_law_mixed" (defScope st__law_mixed) f cdv A outer s H E) rfl rfl rfl rfl
  have po : PassesOwn (model P w) (cxOf (L2.CX P w) P w K mg base N__law_mixed "_law_mixed" (defScope st__law_mixed) f cdv A outer s H E).A (cxOf (L2.CX P w) P w K mg base N__law_mixed "_law_mixed" (defScope st__law_mixed) f cdv A outer s H E).env (cxOf (L2.CX P w) P w K mg base N__law_mixed "_law_mixed" (defScope st__law_mixed) f cdv A outer s H E).xe := passes_of rfl
  have hu := room_hu hr
  skip
  exact (sim_bcons (sim_set 2 (sim_lst sim_nil) sc__law_mixed.nd) (sim_bcons (sim_for po rfl (sim_itL (sim_var 1)) (sim_bname 3 sc__law_mixed.nd) (sim_bone (sim_mt mt_insert mo_insert 2 PySem.F.slot_list_insert PySem.F.type_list_insert (sim_cons (sim_callD d__law_take hT hr (by decide) tk rfl (sim_cons (sim_var 0) (sim_cons (sim_op or_add (sim_callB cd_len rfl B.b_len (by decide +kernel) (sim_cons (sim_var 2) sim_nil)) sim_int) sim_nil))) (sim_cons (sim_var 3) sim_nil))))) (sim_bone (sim_retL 2 gr))))
abbrev st__law_alike : Stmt := top 30
def N__law_alike : List Str := ["found", "due"]
theorem sc__law_alike : FnScope N__law_alike ["found", "due"] (defScope st__law_alike) := ⟨rfl, rfl, rfl, by decide +kernel, rfl, by decide +kernel, by decide +kernel⟩
def w__law_alike : WS := (wRet (wAnd (wOp opEq (wCB bRepr (wCons (wVar 0) wNil)) (wCB bRepr (wCons (wVar 1) wNil))) (wOp opEq (wVar 0) (wVar 1))))
def V__law_alike : Prop := ∀ (ys : List Val) (R : Val → Prop) (Ex : Xn → Prop), ys.length = 2 → ys.all argOk = true → Φ__law_alike ys R Ex → w__law_alike (endW R Ex) (start0 N__law_alike ys)
set_option maxHeartbeats 4000000 in
theorem s__law_alike (B : Bs mg) (S : Src K mg "_law_alike" "_law_alike" st__law_alike ["found", "due"]) (v : V__law_alike) : Gfn P w K mg base TT kc "_law_alike" 1 2 Φ__law_alike := by
  refine gfn_of (k := 0) S sc__law_alike (fun f cdv A outer s H E Z ow hgd hr hT gr => ?_) v
  have tk := takes_of (X := cxOf (L2.CX P w) P w K mg base N__law_alike "_law_alike" (defScope st__law_alike) f cdv A outer s H E) rfl rfl rfl rfl
  have po : PassesOwn (model P w) (cxOf (L2.CX P w) P w K mg base N__law_alike "_law_alike" (defScope st__law_alike) f cdv A outer s H E).A (cxOf (L2.CX P w) P w K mg base N__law_alike "_law_alike" (defScope st__law_alike) f cdv A outer s H E).env (cxOf (L2.CX P w) P w K mg base N__law_alike "_law_alike" (defScope st__law_alike) f cdv A outer s H E).xe := passes_of rfl
  have hu := room_hu hr
  skip
  exact (sim_bone (sim_ret (sim_vand (sim_cmp (or_eq (room_hu hr)) (sim_callB (cd_repr hgd (room_hu hr)) rfl B.b_repr (by decide +kernel) (sim_cons (sim_var 0) sim_nil)) (sim_callB (cd_repr hgd (room_hu hr)) rfl B.b_repr (by decide +kernel) (sim_cons (sim_var 1) sim_nil))) (sim_vone (sim_cmp (or_eq (room_hu hr)) (sim_var 0) (sim_var 1))))))
abbrev st__law_is_int : Stmt := top 31
def N__law_is_int : List Str := ["thing"]
theorem sc__law_is_int : FnScope N__law_is_int ["thing"] (defScope st__law_is_int) := ⟨rfl, rfl, rfl, by decide +kernel, rfl, by decide +kernel, by decide +kernel⟩
def w__law_is_int : WS := (wRet (wAnd (wIsi isIntD (wVar 0)) (wNot (wIsi isBoolD (wVar 0)))))
def V__law_is_int : Prop := ∀ (ys : List Val) (R : Val → Prop) (Ex : Xn → Prop), ys.length = 1 → ys.all argOk = true → Φ__law_is_int ys R Ex → w__law_is_int (endW R Ex) (start0 N__law_is_int ys)
set_option maxHeartbeats 4000000 in
theorem s__law_is_int (B : Bs mg) (S : Src K mg "_law_is_int" "_law_is_int" st__law_is_int ["thing"]) (v : V__law_is_int) : Dfn P w K mg base TT kc "_law_is_int" 1 1 Φ__law_is_int := by
  refine dfn_of (k := 0) S sc__law_is_int (fun f cdv A outer s H E Z ow hm hc hr hT gr => ?_) v
  have tk := takes_of (X := cxOf (L2.CX P w) P w K mg base N__law_is_int "_law_is_int" (defScope st__law_is_int) f cdv A outer s H E) rfl rfl rfl rfl
  have po : PassesOwn (model P w) (cxOf (L2.CX P w) P w K mg base N__law_is_int "_law_is_int" (defScope st__law_is_int) f cdv A outer s H E).A (cxOf (L2.CX P w) P w K mg base N__law_is_int "_law_is_int" (defScope st__law_is_int) f cdv A outer s H E).env (cxOf (L2.CX P w) P w K mg base N__law_is_int "_law_is_int" (defScope st__law_is_int) f cdv A outer s H E).xe := passes_of rfl
  have hu := room_hu hr
  skip
  exact (sim_bone (sim_ret (sim_vand (sim_isi ci_int rfl B.b_isinstance rfl B.b_int (by decide +kernel) (sim_var 0)) (sim_vone (sim_vnot (sim_isi ci_bool rfl B.b_isinstance rfl B.b_bool (by decide +kernel) (sim_var 0)))))))
abbrev st__law_harp : Stmt := top 32
def N__law_harp : List Str := ["bag", "most_letters", "most_strings", "size", "letters", "names", "bases", "rows", "name", "base"]
theorem sc__law_harp : FnScope N__law_harp ["bag", "most_letters", "most_strings"] (defScope st__law_harp) := ⟨rfl, rfl, rfl, by decide +kernel, rfl, by decide +kernel, by decide +kernel⟩
def psc__law_harp_107_17 : Scope := { kind := PySem.ScopeKind.function, names := [ (PySem.Str.ofString ".0", PySem.NameKind.local), (PySem.Str.ofString "name", PySem.NameKind.local), (PySem.Str.ofString "base", PySem.NameKind.local), (PySem.Str.ofString "_law_take", PySem.NameKind.globalImplicit), (PySem.Str.ofString "bag", PySem.NameKind.free)], isGenerator := false, isCoroutine := false, more := [] : PySem.Scope }
def w__law_harp_1 : WS := (wSeq (wSetD 7 (wCB bTuple (wCons (wLc (wZip (wCons (wVar 5) (wCons (wVar 6) wNil))) (bTup (bCons (bName 8) (bCons (bName 9) bNil))) wYes (wTup (wCons (wVar 8) (wCons (wVar 9) (wCons (wCall 2 Φ__law_take (wCons (wVar 0) (wCons (wC (.int 2)) wNil))) wNil)))) [8, 9]) wNil))) (wRet (wTup (wCons (wVar 3) (wCons (wVar 7) (wCons (wOp opAdd (wC (.int 1)) (wCall 2 Φ__law_take (wCons (wVar 0) (wCons (wVar 2) wNil)))) (wCons (wOp opAdd (wC (.int 1)) (wCall 2 Φ__law_take (wCons (wVar 0) (wCons (wC (.int 3)) wNil)))) (wCons (wCall 2 Φ__law_take (wCons (wVar 0) (wCons (wC (.int 9)) wNil))) wNil))))))))
def w__law_harp_2 : WS := (wSeq (wSetD 6 (wCB bSorted (wCons (wSl (wCall 2 Φ__law_mixed (wCons (wVar 0) (wCons (wLR1 false (wVar 3)) wNil))) wNo (wSo (wVar 4))) wNil))) w__law_harp_1)
def w__law_harp_3 : WS := (wSeq (wSetD 5 (wSl (wCall 2 Φ__law_mixed (wCons (wVar 0) (wCons (wLst (wCons (wC (.str "ce")) (wCons (wC (.str "de")) (wCons (wC (.str "eh")) (wCons (wC (.str "ef")) (wCons (wC (.str "ge")) (wCons (wC (.str "ah")) (wCons (wC (.str "bee")) (wCons (wC (.str "hand")) (wCons (wC (.str "lefty")) wNil)))))))))) wNil))) wNo (wSo (wVar 4)))) w__law_harp_2)
def w__law_harp : WS := (wSeq (wPar 3 4 (wCons (wCall 2 Φ__law_some (wCons (wVar 0) (wCons (wLst (wCons (wC (.int 5)) (wCons (wC (.int 7)) (wCons (wC (.int 12)) wNil)))) wNil))) (wCons (wOp opAdd (wC (.int 2)) (wCall 2 Φ__law_take (wCons (wVar 0) (wCons (wOp opSub (wVar 1) (wC (.int 1))) wNil)))) wNil))) w__law_harp_3)
def V__law_harp : Prop := ∀ (ys : List Val) (R : Val → Prop) (Ex : Xn → Prop), ys.length = 3 → ys.all argOk = true → Φ__law_harp ys R Ex → w__law_harp (endW R Ex) (start0 N__law_harp ys)
set_option maxHeartbeats 4000000 in
theorem s__law_harp (B : Bs mg) (S : Src K mg "_law_harp" "_law_harp" st__law_harp ["bag", "most_letters", "most_strings"]) (d__law_take : Dfn P w K mg base TT kc "_law_take" 1 2 Φ__law_take) (d__law_some : Dfn P w K mg base TT kc "_law_some" 2 2 Φ__law_some) (d__law_mixed : Dfn P w K mg base TT kc "_law_mixed" 2 2 Φ__law_mixed) (v : V__law_harp) : Dfn P w K mg base TT kc "_law_harp" 3 3 Φ__law_harp := by
  refine dfn_of (k := 2) S sc__law_harp (fun f cdv A outer s H E Z ow hm hc hr hT gr => ?_) v
  have tk := takes_of (X := cxOf (L2.CX P w) P w K mg base N__law_harp "_law_harp" (defScope st__law_harp) f cdv A outer s H E) rfl rfl rfl rfl
  have po : PassesOwn (model P w) (cxOf (L2.CX P w) P w K mg base N__law_harp "_law_harp" (defScope st__law_harp) f cdv A outer s H E).A (cxOf (L2.CX P w) P w K mg base N__law_harp "_law_harp" (defScope st__law_harp) f cdv A outer s H E).env (cxOf (L2.CX P w) P w K mg base N__law_harp "_law_harp" (defScope st__law_harp) f cdv A outer s H E).xe := passes_of rfl
  have hu := room_hu hr
  skip
  exact (sim_bcons (sim_par 3 4 rfl (sim_cons (sim_callD d__law_some hT hr (by decide) tk rfl (sim_cons (sim_var 0) (sim_cons (sim_lst (sim_cons sim_int (sim_cons sim_int (sim_cons sim_int sim_nil)))) sim_nil))) (sim_cons (sim_op or_add sim_int (sim_callD d__law_take hT hr (by decide) tk rfl (sim_cons (sim_var 0) (sim_cons (sim_op or_sub (sim_var 1) sim_int) sim_nil)))) sim_nil)) sc__law_harp.nd) (sim_bcons (sim_setD 5 (sim_sl (sim_callD d__law_mixed hT hr (by decide) tk rfl (sim_cons (sim_var 0) (sim_cons (sim_lst (sim_cons sim_str (sim_cons sim_str (sim_cons sim_str (sim_cons sim_str (sim_cons sim_str (sim_cons sim_str (sim_cons sim_str (sim_cons sim_str (sim_cons sim_str sim_nil)))))))))) sim_nil))) sim_no (sim_so (sim_var 4))) sc__law_harp.nd) (sim_bcons (sim_setD 6 (sim_callB (cd_sorted hu) rfl B.b_sorted (by decide +kernel) (sim_cons (sim_sl (sim_callD d__law_mixed hT hr (by decide) tk rfl (sim_cons (sim_var 0) (sim_cons (sim_listRg1 rfl (sim_var 3) rfl B.b_list rfl B.b_range) sim_nil))) sim_no (sim_so (sim_var 4))) sim_nil)) sc__law_harp.nd) (sim_bcons (sim_setD 7 (sim_callT cd_tuple rfl B.b_tuple (by decide +kernel) (sim_cons (sim_lc (own := [("name", 8), ("base", 9)]) rfl sc__law_harp.nd gr (sim_zip rfl B.b_zip (sim_cons (sim_var 5) (sim_cons (sim_var 6) sim_nil))) (blkOk_by (N := N__law_harp) (sc := defScope st__law_harp) (by decide +kernel)) (by decide) (fun s H C cl fp => (sim_btup rfl (sim_btcons (sim_bname 8 sc__law_harp.nd) (sim_btcons (sim_bname 9 sc__law_harp.nd) sim_btnil)) (bCons_len bName_has (bCons_len bName_has bNil_len)))) (fun s H C cl fp => sim_tsnil) (fun s H C cl fp => (sim_tup (sim_cons (sim_var 8) (sim_cons (sim_var 9) (sim_cons (sim_callD d__law_take hT hr (by decide) LamX.takes0 rfl (sim_cons (sim_var 0) (sim_cons sim_int sim_nil))) sim_nil)))))) sim_nil)) sc__law_harp.nd) (sim_bone (sim_ret (sim_tup (sim_cons (sim_var 3) (sim_cons (sim_var 7) (sim_cons (sim_op or_add sim_int (sim_callD d__law_take hT hr (by decide) tk rfl (sim_cons (sim_var 0) (sim_cons (sim_var 2) sim_nil)))) (sim_cons (sim_op or_add sim_int (sim_callD d__law_take hT hr (by decide) tk rfl (sim_cons (sim_var 0) (sim_cons sim_int sim_nil)))) (sim_cons (sim_callD d__law_take hT hr (by decide) tk rfl (sim_cons (sim_var 0) (sim_cons sim_int sim_nil))) sim_nil))))))))))))
abbrev st__law_is_name : Stmt := top 33
def N__law_is_name : List Str := ["thing", "sign"]
theorem sc__law_is_name : FnScope N__law_is_name ["thing"] (defScope st__law_is_name) := ⟨rfl, rfl, rfl, by decide +kernel, rfl, by decide +kernel, by decide +kernel⟩
def psc__law_is_name_112_11 : Scope := { kind := PySem.ScopeKind.function, names := [(PySem.Str.ofString ".0", PySem.NameKind.local), (PySem.Str.ofString "sign", PySem.NameKind.local)], isGenerator := false, isCoroutine := false, more := [] : PySem.Scope }
def w__law_is_name : WS := (wSeq (wIfS (wTor (wTnot (wTv (wIsi isStrD (wVar 0)))) (wTor (wTnot (wTv (wChain opLe opLe (wC (.int 2)) (wCB bLen (wCons (wVar 0) wNil)) (wC (.int 8))))) (wTv (wOp opIn (wVar 0) (wTup (wCons (wC (.str "hands")) (wCons (wC (.str "left")) (wCons (wC (.str "letter")) (wCons (wC (.str "note")) (wCons (wC (.str "right")) (wCons (wC (.str "round")) (wCons (wC (.str "strings")) (wCons (wC (.str "ticks")) wNil))))))))))))) (wRet (wC (.bool false))) wSkip) (wRet (wOp opEq (wLc (wItS (wVar 0)) (bName 1) (wTv (wOp opNin (wVar 1) (wC (.str "abcdefghijklmnopqrstuvwxyz")))) (wVar 1) [1]) (wLst wNil))))
def V__law_is_name : Prop := ∀ (ys : List Val) (R : Val → Prop) (Ex : Xn → Prop), ys.length = 1 → ys.all argOk = true → Φ__law_is_name ys R Ex → w__law_is_name (endW R Ex) (start0 N__law_is_name ys)
set_option maxHeartbeats 4000000 in
theorem s__law_is_name (B : Bs mg) (S : Src K mg "_law_is_name" "_law_is_name" st__law_is_name ["thing"]) (v : V__law_is_name) : Dfn P w K mg base TT kc "_law_is_name" 1 1 Φ__law_is_name := by
  refine dfn_of (k := 0) S sc__law_is_name (fun f cdv A outer s H E Z ow hm hc hr hT gr => ?_) v
  have tk := takes_of (X := cxOf (L2.CX P w) P w K mg base N__law_is_name "_law_is_name" (defScope st__law_is_name) f cdv A outer s H E) rfl rfl rfl rfl
  have po : PassesOwn (model P w) (cxOf (L2.CX P w) P w K mg base N__law_is_name "_law_is_name" (defScope st__law_is_name) f cdv A outer s H E).A (cxOf (L2.CX P w) P w K mg base N__law_is_name "_law_is_name" (defScope st__law_is_name) f cdv A outer s H E).env (cxOf (L2.CX P w) P w K mg base N__law_is_name "_law_is_name" (defScope st__law_is_name) f cdv A outer s H E).xe := passes_of rfl
  have hu := room_hu hr
  skip
  exact (sim_bcons (sim_if (SimW.t (sim_or (sim_tnot (sim_tv (sim_isi ci_str rfl B.b_isinstance rfl B.b_str (by decide +kernel) (sim_var 0)))) (sim_or (sim_tnot (sim_tchain or_le or_le sim_int (sim_callB cd_len rfl B.b_len (by decide +kernel) (sim_cons (sim_var 0) sim_nil)) sim_int)) (sim_or1 (sim_tcmp (or_in (room_hu hr)) (sim_var 0) (sim_tup (sim_cons sim_str (sim_cons sim_str (sim_cons sim_str (sim_cons sim_str (sim_cons sim_str (sim_cons sim_str (sim_cons sim_str (sim_cons sim_str sim_nil)))))))))))))) (sim_bone (sim_ret sim_bl)) sim_bnil) (sim_bone (sim_ret (sim_cmp (or_eq (room_hu hr)) (sim_lc (own := [("sign", 1)]) rfl sc__law_is_name.nd gr (sim_itS (sim_var 0)) (blkOk_by (N := N__law_is_name) (sc := defScope st__law_is_name) (by decide +kernel)) (by decide) (fun s H C cl fp => (sim_bname 1 sc__law_is_name.nd)) (fun s H C cl fp => (sim_tsone (sim_tcmp (or_nin (room_hu hr)) (sim_var 1) sim_str))) (fun s H C cl fp => (sim_var 1))) (sim_lst sim_nil)))))
abbrev st__law_raised : Stmt := top 34
def N__law_raised : List Str := ["act", "error"]
theorem sc__law_raised : FnScope N__law_raised ["act"] (defScope st__law_raised) := ⟨rfl, rfl, rfl, by decide +kernel, rfl, by decide +kernel, by decide +kernel⟩
abbrev st__law_is_form : Stmt := top 35
def N__law_is_form : List Str := ["thing", "row", "part", "k"]
theorem sc__law_is_form : FnScope N__law_is_form ["thing"] (defScope st__law_is_form) := ⟨rfl, rfl, rfl, by decide +kernel, rfl, by decide +kernel, by decide +kernel⟩
def psc__law_is_form_124_89 : Scope := { kind := PySem.ScopeKind.function, names := [ (PySem.Str.ofString ".0", PySem.NameKind.local), (PySem.Str.ofString "part", PySem.NameKind.local), (PySem.Str.ofString "_law_is_int", PySem.NameKind.globalImplicit)], isGenerator := false, isCoroutine := false, more := [] : PySem.Scope }
def psc__law_is_form_126_11 : Scope := { kind := PySem.ScopeKind.function, names := [ (PySem.Str.ofString ".0", PySem.NameKind.local), (PySem.Str.ofString "k", PySem.NameKind.local), (PySem.Str.ofString "_law_is_int", PySem.NameKind.globalImplicit), (PySem.Str.ofString "thing", PySem.NameKind.free)], isGenerator := false, isCoroutine := false, more := [] : PySem.Scope }
def w__law_is_form_1 : WS := (wSeq (wFor (wIt (wOp opIx (wVar 0) (wC (.int 1)))) (bName 1) (wIfS (wTor (wTnot (wTv (wIsi isTupleD (wVar 1)))) (wTor (wTv (wOp opNe (wCB bLen (wCons (wVar 1) wNil)) (wC (.int 3)))) (wTor (wTnot (wTv (wCall 1 Φ__law_is_name (wCons (wOp opIx (wVar 1) (wC (.int 0))) wNil)))) (wTv (wOp opNe (wLc (wIt (wSl (wVar 1) (wSo (wC (.int 1))) wNo)) (bName 2) (wTor (wTnot (wTv (wCall 1 Φ__law_is_int (wCons (wVar 2) wNil)))) (wTv (wOp opLt (wVar 2) (wC (.int 0))))) (wVar 2) [2]) (wLst wNil)))))) (wRet (wC (.bool false))) wSkip)) (wRet (wOp opEq (wLc (wIt (wTup (wCons (wC (.int 0)) (wCons (wC (.int 2)) (wCons (wC (.int 3)) (wCons (wC (.int 4)) wNil)))))) (bName 3) (wTor (wTnot (wTv (wCall 1 Φ__law_is_int (wCons (wOp opIx (wVar 0) (wVar 3)) wNil)))) (wTv (wOp opLt (wOp opIx (wVar 0) (wVar 3)) (wC (.int 0))))) (wVar 3) [3]) (wLst wNil))))
def w__law_is_form : WS := (wSeq (wIfS (wTor (wTnot (wTv (wIsi isTupleD (wVar 0)))) (wTor (wTv (wOp opNe (wCB bLen (wCons (wVar 0) wNil)) (wC (.int 5)))) (wTnot (wTv (wIsi isTupleD (wOp opIx (wVar 0) (wC (.int 1)))))))) (wRet (wC (.bool false))) wSkip) w__law_is_form_1)
def V__law_is_form : Prop := ∀ (ys : List Val) (R : Val → Prop) (Ex : Xn → Prop), ys.length = 1 → ys.all argOk = true → Φ__law_is_form ys R Ex → w__law_is_form (endW R Ex) (start0 N__law_is_form ys)
set_option maxHeartbeats 4000000 in
theorem s__law_is_form (B : Bs mg) (S : Src K mg "_law_is_form" "_law_is_form" st__law_is_form ["thing"]) (d__law_is_name : Dfn P w K mg base TT kc "_law_is_name" 1 1 Φ__law_is_name) (d__law_is_int : Dfn P w K mg base TT kc "_law_is_int" 1 1 Φ__law_is_int) (v : V__law_is_form) : Dfn P w K mg base TT kc "_law_is_form" 2 1 Φ__law_is_form := by
  refine dfn_of (k := 1) S sc__law_is_form (fun f cdv A outer s H E Z ow hm hc hr hT gr => ?_) v
  have tk := takes_of (X := cxOf (L2.CX P w) P w K mg base N__law_is_form "_law_is_form" (defScope st__law_is_form) f cdv A outer s H E) rfl rfl rfl rfl
  have po : PassesOwn (model P w) (cxOf (L2.CX P w) P w K mg base N__law_is_form "_law_is_form" (defScope st__law_is_form) f cdv A outer s H E).A (cxOf (L2.CX P w) P w K mg base N__law_is_form "_law_is_form" (defScope st__law_is_form) f cdv A outer s H E).env (cxOf (L2.CX P w) P w K mg base N__law_is_form "_law_is_form" (defScope st__law_is_form) f cdv A outer s H E).xe := passes_of rfl
  have hu := room_hu hr
  skip
  exact (sim_bcons (sim_if (SimW.t (sim_or (sim_tnot (sim_tv (sim_isi ci_tuple rfl B.b_isinstance rfl B.b_tuple (by decide +kernel) (sim_var 0)))) (sim_or (sim_tcmp (or_ne (room_hu hr)) (sim_callB cd_len rfl B.b_len (by decide +kernel) (sim_cons (sim_var 0) sim_nil)) sim_int) (sim_or1 (sim_tnot (sim_tv (sim_isi ci_tuple rfl B.b_isinstance rfl B.b_tuple (by decide +kernel) (sim_ix (sim_var 0) sim_int)))))))) (sim_bone (sim_ret sim_bl)) sim_bnil) (sim_bcons (sim_for po rfl (sim_it (sim_ix (sim_var 0) sim_int)) (sim_bname 1 sc__law_is_form.nd) (sim_bone (sim_if (SimW.t (sim_or (sim_tnot (sim_tv (sim_isi ci_tuple rfl B.b_isinstance rfl B.b_tuple (by decide +kernel) (sim_var 1)))) (sim_or (sim_tcmp (or_ne (room_hu hr)) (sim_callB cd_len rfl B.b_len (by decide +kernel) (sim_cons (sim_var 1) sim_nil)) sim_int) (sim_or (sim_tnot (sim_tv (sim_callD d__law_is_name hT hr (by decide) tk rfl (sim_cons (sim_ix (sim_var 1) sim_int) sim_nil)))) (sim_or1 (sim_tcmp (or_ne (room_hu hr)) (sim_lc (own := [("part", 2)]) rfl sc__law_is_form.nd gr (sim_it (sim_sl (sim_var 1) (sim_so sim_int) sim_no)) (blkOk_by (N := N__law_is_form) (sc := defScope st__law_is_form) (by decide +kernel)) (by decide) (fun s H C cl fp => (sim_bname 2 sc__law_is_form.nd)) (fun s H C cl fp => (sim_tsone (SimW.t (sim_or (sim_tnot (sim_tv (sim_callD d__law_is_int hT hr (by decide) LamX.takes0 rfl (sim_cons (sim_var 2) sim_nil)))) (sim_or1 (sim_tcmp or_lt (sim_var 2) sim_int)))))) (fun s H C cl fp => (sim_var 2))) (sim_lst sim_nil))))))) (sim_bone (sim_ret sim_bl)) sim_bnil))) (sim_bone (sim_ret (sim_cmp (or_eq (room_hu hr)) (sim_lc (own := [("k", 3)]) rfl sc__law_is_form.nd gr (sim_it (sim_tup (sim_cons sim_int (sim_cons sim_int (sim_cons sim_int (sim_cons sim_int sim_nil)))))) (blkOk_by (N := N__law_is_form) (sc := defScope st__law_is_form) (by decide +kernel)) (by decide) (fun s H C cl fp => (sim_bname 3 sc__law_is_form.nd)) (fun s H C cl fp => (sim_tsone (SimW.t (sim_or (sim_tnot (sim_tv (sim_callD d__law_is_int hT hr (by decide) LamX.takes0 rfl (sim_cons (sim_ix (sim_var 0) (sim_var 3)) sim_nil)))) (sim_or1 (sim_tcmp or_lt (sim_ix (sim_var 0) (sim_var 3)) sim_int)))))) (fun s H C cl fp => (sim_var 3))) (sim_lst sim_nil))))))
abbrev st__law_bound : Stmt := top 36
def N__law_bound : List Str := ["word", "number", "least", "most"]
theorem sc__law_bound : FnScope N__law_bound ["word", "number", "least", "most"] (defScope st__law_bound) := ⟨rfl, rfl, rfl, by decide +kernel, rfl, by decide +kernel, by decide +kernel⟩
def w__law_bound : WS := (wRet (wIf (wTv (wOp opLt (wVar 1) (wVar 2))) (wTup (wCons (wC (.str "harp")) (wCons (wVar 0) (wCons (wC (.str "few")) wNil)))) (wIf (wTv (wOp opGt (wVar 1) (wVar 3))) (wTup (wCons (wC (.str "large")) (wCons (wVar 0) (wCons (wVar 3) wNil)))) (wC .none))))
def V__law_bound : Prop := ∀ (ys : List Val) (R : Val → Prop) (Ex : Xn → Prop), ys.length = 4 → ys.all argOk = true → Φ__law_bound ys R Ex → w__law_bound (endW R Ex) (start0 N__law_bound ys)
set_option maxHeartbeats 4000000 in
theorem s__law_bound (B : Bs mg) (S : Src K mg "_law_bound" "_law_bound" st__law_bound ["word", "number", "least", "most"]) (v : V__law_bound) : Dfn P w K mg base TT kc "_law_bound" 1 4 Φ__law_bound := by
  refine dfn_of (k := 0) S sc__law_bound (fun f cdv A outer s H E Z ow hm hc hr hT gr => ?_) v
  have tk := takes_of (X := cxOf (L2.CX P w) P w K mg base N__law_bound "_law_bound" (defScope st__law_bound) f cdv A outer s H E) rfl rfl rfl rfl
  have po : PassesOwn (model P w) (cxOf (L2.CX P w) P w K mg base N__law_bound "_law_bound" (defScope st__law_bound) f cdv A outer s H E).A (cxOf (L2.CX P w) P w K mg base N__law_bound "_law_bound" (defScope st__law_bound) f cdv A outer s H E).env (cxOf (L2.CX P w) P w K mg base N__law_bound "_law_bound" (defScope st__law_bound) f cdv A outer s H E).xe := passes_of rfl
  have hu := room_hu hr
  skip
  exact (sim_bone (sim_ret (sim_ifx (sim_tcmp or_lt (sim_var 1) (sim_var 2)) (sim_tup (sim_cons sim_str (sim_cons (sim_var 0) (sim_cons sim_str sim_nil)))) (sim_ifx (sim_tcmp or_gt (sim_var 1) (sim_var 3)) (sim_tup (sim_cons sim_str (sim_cons (sim_var 0) (sim_cons (sim_var 3) sim_nil)))) sim_non))))
abbrev st__law_due : Stmt := top 37
def N__law_due : List Str := ["thing", "size", "letters", "strings", "fingers", "reach", "found", "k", "name", "base", "foot", "row", "one"]
theorem sc__law_due : FnScope N__law_due ["thing"] (defScope st__law_due) := ⟨rfl, rfl, rfl, by decide +kernel, rfl, by decide +kernel, by decide +kernel⟩
def psc__law_due_135_19 : Scope := { kind := PySem.ScopeKind.function, names := [(PySem.Str.ofString ".0", PySem.NameKind.local), (PySem.Str.ofString "row", PySem.NameKind.local)], isGenerator := false, isCoroutine := false, more := [] : PySem.Scope }
def w__law_due_1 : WS := (wSeq (wIfS (wTor (wTand (wTv (wOp opGt (wVar 7) (wC (.int 0)))) (wTv (wOp opLe (wVar 9) (wOp opIx (wOp opIx (wVar 2) (wOp opSub (wVar 7) (wC (.int 1)))) (wC (.int 1)))))) (wTv (wOp opGe (wVar 9) (wVar 1)))) (wMt 6 mAppend (wCons (wTup (wCons (wC (.str "harp")) (wCons (wVar 8) (wCons (wC (.str "base")) wNil)))) wNil)) wSkip) (wMt 6 mAppend (wCons (wIf (wTv (wOp opGt (wVar 10) (wC (.int 1)))) (wTup (wCons (wC (.str "harp")) (wCons (wVar 8) (wCons (wC (.str "foot")) wNil)))) (wC .none)) wNil)))
def psc__law_due_141_12 : Scope := { kind := PySem.ScopeKind.function, names := [(PySem.Str.ofString ".0", PySem.NameKind.local), (PySem.Str.ofString "one", PySem.NameKind.local)], isGenerator := false, isCoroutine := false, more := [] : PySem.Scope }
def w__law_due_2 : WS := (wSeq (wSet 6 (wThaw 6 (wLc (wItL (wVar 6)) (bName 12) (wTv (wIsN true (wVar 12))) (wVar 12) [12]))) (wRet (wIf (wTv (wOp opNe (wVar 6) (wLst wNil))) (wOp opIx (wVar 6) (wC (.int 0))) (wTup (wCons (wC (.str "told")) (wCons (wVar 0) wNil))))))
def w__law_due_3 : WS := (wSeq (wSet 6 (wOp opAdd (wVar 6) (wLst (wCons (wCall 4 Φ__law_bound (wCons (wC (.str "strings")) (wCons (wVar 3) (wCons (wC (.int 1)) (wCons (wC (.int 60)) wNil))))) (wCons (wCall 4 Φ__law_bound (wCons (wC (.str "fingers")) (wCons (wVar 4) (wCons (wC (.int 1)) (wCons (wC (.int 5)) wNil))))) (wCons (wCall 4 Φ__law_bound (wCons (wC (.str "reach")) (wCons (wVar 5) (wCons (wC (.int 0)) (wCons (wC (.int 59)) wNil))))) wNil)))))) w__law_due_2)
def w__law_due_4 : WS := (wSeq (wFor (wEnum (wCons (wVar 2) wNil)) (bTup (bCons (bName 7) (bCons (bTup (bCons (bName 8) (bCons (bName 9) (bCons (bName 10) bNil)))) bNil))) (wSeq (wIfS (wTv (wOp opIn (wVar 8) (wLc (wIt (wSl (wVar 2) wNo (wSo (wVar 7)))) (bName 11) wYes (wOp opIx (wVar 11) (wC (.int 0))) [11]))) (wMt 6 mAppend (wCons (wTup (wCons (wC (.str "harp")) (wCons (wVar 8) (wCons (wC (.str "twice")) wNil)))) wNil)) wSkip) w__law_due_1)) w__law_due_3)
def w__law_due_5 : WS := (wSeq (wSet 6 (wLst (wCons (wCall 4 Φ__law_bound (wCons (wC (.str "round")) (wCons (wVar 1) (wCons (wC (.int 2)) (wCons (wC (.int 24)) wNil))))) (wCons (wCall 4 Φ__law_bound (wCons (wC (.str "letters")) (wCons (wCB bLen (wCons (wVar 2) wNil)) (wCons (wC (.int 2)) (wCons (wC (.int 9)) wNil))))) wNil)))) w__law_due_4)
def w__law_due_6 : WS := (wSeq (wAsg (bTup (bCons (bName 1) (bCons (bName 2) (bCons (bName 3) (bCons (bName 4) (bCons (bName 5) bNil)))))) (wVar 0)) w__law_due_5)
def w__law_due : WS := (wSeq (wIfS (wTnot (wTv (wCall 1 Φ__law_is_form (wCons (wVar 0) wNil)))) (wRet (wTup (wCons (wC (.str "harp")) (wCons (wC (.str "")) (wCons (wC (.str "form")) wNil))))) wSkip) w__law_due_6)
def V__law_due : Prop := ∀ (ys : List Val) (R : Val → Prop) (Ex : Xn → Prop), ys.length = 1 → ys.all argOk = true → Φ__law_due ys R Ex → w__law_due (endW R Ex) (start0 N__law_due ys)
set_option maxHeartbeats 4000000 in
theorem s__law_due (B : Bs mg) (S : Src K mg "_law_due" "_law_due" st__law_due ["thing"]) (d__law_is_form : Dfn P w K mg base TT kc "_law_is_form" 2 1 Φ__law_is_form) (d__law_bound : Dfn P w K mg base TT kc "_law_bound" 1 4 Φ__law_bound) (v : V__law_due) : Dfn P w K mg base TT kc "_law_due" 3 1 Φ__law_due := by
  refine dfn_of (k := 2) S sc__law_due (fun f cdv A outer s H E Z ow hm hc hr hT gr => ?_) v
  have tk := takes_of (X := cxOf (L2.CX P w) P w K mg base N__law_due "_law_due" (defScope st__law_due) f cdv A outer s H E) rfl rfl rfl rfl
  have po : PassesOwn (model P w) (cxOf (L2.CX P w) P w K mg base N__law_due "_law_due" (defScope st__law_due) f cdv A outer s H E).A (cxOf (L2.CX P w) P w K mg base N__law_due "_law_due" (defScope st__law_due) f cdv A outer s H E).env (cxOf (L2.CX P w) P w K mg base N__law_due "_law_due" (defScope st__law_due) f cdv A outer s H E).xe := passes_of rfl
  have hu := room_hu hr
  skip
  exact (sim_bcons (sim_if (sim_tnot (sim_tv (sim_callD d__law_is_form hT hr (by decide) tk rfl (sim_cons (sim_var 0) sim_nil)))) (sim_bone (sim_ret (sim_tup (sim_cons sim_str (sim_cons sim_str (sim_cons sim_str sim_nil)))))) sim_bnil) (sim_bcons (sim_asg (sim_var 0) (sim_btup rfl (sim_btcons (sim_bname 1 sc__law_due.nd) (sim_btcons (sim_bname 2 sc__law_due.nd) (sim_btcons (sim_bname 3 sc__law_due.nd) (sim_btcons (sim_bname 4 sc__law_due.nd) (sim_btcons (sim_bname 5 sc__law_due.nd) sim_btnil))))) (bCons_len bName_has (bCons_len bName_has (bCons_len bName_has (bCons_len bName_has (bCons_len bName_has bNil_len))))))) (sim_bcons (sim_set 6 (sim_lst (sim_cons (sim_callD d__law_bound hT hr (by decide) tk rfl (sim_cons sim_str (sim_cons (sim_var 1) (sim_cons sim_int (sim_cons sim_int sim_nil))))) (sim_cons (sim_callD d__law_bound hT hr (by decide) tk rfl (sim_cons sim_str (sim_cons (sim_callB cd_len rfl B.b_len (by decide +kernel) (sim_cons (sim_var 2) sim_nil)) (sim_cons sim_int (sim_cons sim_int sim_nil))))) sim_nil))) sc__law_due.nd) (sim_bcons (sim_for po rfl (sim_enum rfl B.b_enumerate (sim_cons (sim_var 2) sim_nil)) (sim_btup rfl (sim_btcons (sim_bname 7 sc__law_due.nd) (sim_btcons (sim_btup rfl (sim_btcons (sim_bname 8 sc__law_due.nd) (sim_btcons (sim_bname 9 sc__law_due.nd) (sim_btcons (sim_bname 10 sc__law_due.nd) sim_btnil))) (bCons_len bName_has (bCons_len bName_has (bCons_len bName_has bNil_len)))) sim_btnil)) (bCons_len bName_has (bCons_len (bTup_has (bCons_has bName_has (bCons_has bName_has (bCons_has bName_has bNil_has)))) bNil_len))) (sim_bcons (sim_if (sim_tcmp (or_in (room_hu hr)) (sim_var 8) (sim_lc (own := [("row", 11)]) rfl sc__law_due.nd gr (sim_it (sim_sl (sim_var 2) sim_no (sim_so (sim_var 7)))) (blkOk_by (N := N__law_due) (sc := defScope st__law_due) (by decide +kernel)) (by decide) (fun s H C cl fp => (sim_bname 11 sc__law_due.nd)) (fun s H C cl fp => sim_tsnil) (fun s H C cl fp => (sim_ix (sim_var 11) sim_int)))) (sim_bone (sim_mt mt_append mo_append 6 PySem.F.slot_list_append PySem.F.type_list_append (sim_cons (sim_tup (sim_cons sim_str (sim_cons (sim_var 8) (sim_cons sim_str sim_nil)))) sim_nil))) sim_bnil) (sim_bcons (sim_if (SimW.t (sim_or (SimW.t (sim_and (sim_tcmp or_gt (sim_var 7) sim_int) (sim_and1 (sim_tcmp or_le (sim_var 9) (sim_ix (sim_ix (sim_var 2) (sim_op or_sub (sim_var 7) sim_int)) sim_int))))) (sim_or1 (sim_tcmp or_ge (sim_var 9) (sim_var 1))))) (sim_bone (sim_mt mt_append mo_append 6 PySem.F.slot_list_append PySem.F.type_list_append (sim_cons (sim_tup (sim_cons sim_str (sim_cons (sim_var 8) (sim_cons sim_str sim_nil)))) sim_nil))) sim_bnil) (sim_bone (sim_mt mt_append mo_append 6 PySem.F.slot_list_append PySem.F.type_list_append (sim_cons (sim_ifx (sim_tcmp or_gt (sim_var 10) sim_int) (sim_tup (sim_cons sim_str (sim_cons (sim_var 8) (sim_cons sim_str sim_nil)))) sim_non) sim_nil)))))) (sim_bcons (sim_set 6 (sim_op or_add (sim_var 6) (sim_lst (sim_cons (sim_callD d__law_bound hT hr (by decide) tk rfl (sim_cons sim_str (sim_cons (sim_var 3) (sim_cons sim_int (sim_cons sim_int sim_nil))))) (sim_cons (sim_callD d__law_bound hT hr (by decide) tk rfl (sim_cons sim_str (sim_cons (sim_var 4) (sim_cons sim_int (sim_cons sim_int sim_nil))))) (sim_cons (sim_callD d__law_bound hT hr (by decide) tk rfl (sim_cons sim_str (sim_cons (sim_var 5) (sim_cons sim_int (sim_cons sim_int sim_nil))))) sim_nil))))) sc__law_due.nd) (sim_bcons (sim_setLcT 6 6 (own := [("one", 12)]) rfl sc__law_due.nd gr (sim_itL (sim_var 6)) (blkOk_by (N := N__law_due) (sc := defScope st__law_due) (by decide +kernel)) (by decide) (fun s H C cl fp => (sim_bname 12 sc__law_due.nd)) (fun s H C cl fp => (sim_tsone (sim_tnotN (sim_var 12)))) (fun s H C cl fp => (sim_var 12))) (sim_bone (sim_ret (sim_ifx (sim_tcmp (or_ne (room_hu hr)) (sim_var 6) (sim_lst sim_nil)) (sim_ix (sim_var 6) sim_int) (sim_tup (sim_cons sim_str (sim_cons (sim_var 0) sim_nil))))))))))))
abbrev st__law_bent : Stmt := top 38
def N__law_bent : List Str := ["bag", "harp", "way", "k", "name", "base", "foot", "odds", "at"]
theorem sc__law_bent : FnScope N__law_bent ["bag", "harp"] (defScope st__law_bent) := ⟨rfl, rfl, rfl, by decide +kernel, rfl, by decide +kernel, by decide +kernel⟩
def w__law_bent_1 : WS := (wSeq (wSetD 7 (wOp opAdd (wVar 7) (wLst (wCons (wTup (wCons (wVar 4) (wCons (wVar 5) wNil))) (wCons (wLst (wCons (wVar 4) (wCons (wVar 5) (wCons (wVar 6) wNil)))) (wCons (wC .none) (wCons (wTup (wCons (wC (.str "zz")) (wCons (wVar 5) (wCons (wVar 6) wNil)))) (wCons (wTup (wCons (wVar 4) (wCons (wOp opIx (wOp opIx (wOp opIx (wVar 1) (wC (.int 1))) (wC (.int 0))) (wC (.int 1))) (wCons (wVar 6) wNil)))) wNil)))))))) (wRet (wOp opAdd (wOp opAdd (wSl (wVar 1) wNo (wSo (wC (.int 1)))) (wTup (wCons (wOp opAdd (wOp opAdd (wSl (wOp opIx (wVar 1) (wC (.int 1))) wNo (wSo (wVar 3))) (wTup (wCons (wCall 2 Φ__law_some (wCons (wVar 0) (wCons (wVar 7) wNil))) wNil))) (wSl (wOp opIx (wVar 1) (wC (.int 1))) (wSo (wOp opAdd (wVar 3) (wCall 2 Φ__law_take (wCons (wVar 0) (wCons (wC (.int 2)) wNil))))) wNo)) wNil))) (wSl (wVar 1) (wSo (wC (.int 2))) wNo))))
def w__law_bent_2 : WS := (wSeq (wSetD 7 (wLst (wCons (wTup (wCons (wVar 4) (wCons (wVar 5) (wCons (wC (.int 2)) wNil)))) (wCons (wTup (wCons (wVar 4) (wCons (wOp opIx (wVar 1) (wC (.int 0))) (wCons (wVar 6) wNil)))) (wCons (wTup (wCons (wOp opIx (wOp opIx (wOp opIx (wVar 1) (wC (.int 1))) (wC (.int 0))) (wC (.int 0))) (wCons (wVar 5) (wCons (wVar 6) wNil)))) (wCons (wTup (wCons (wVar 4) (wCons (wOp opAdd (wVar 5) (wC (.int 1))) (wCons (wVar 6) wNil)))) (wCons (wTup (wCons (wC (.str "note")) (wCons (wVar 5) (wCons (wVar 6) wNil)))) (wCons (wTup (wCons (wC (.str "a")) (wCons (wVar 5) (wCons (wVar 6) wNil)))) (wCons (wTup (wCons (wVar 4) (wCons (wC (.bool true)) (wCons (wVar 6) wNil)))) (wCons (wTup (wCons (wVar 4) (wCons (wVar 5) (wCons (wNeg (wC (.int 1))) wNil)))) wNil)))))))))) w__law_bent_1)
def w__law_bent_3 : WS := (wSeq (wSetD 8 (wCall 2 Φ__law_some (wCons (wVar 0) (wCons (wLst (wCons (wC (.int 0)) (wCons (wC (.int 2)) (wCons (wC (.int 3)) (wCons (wC (.int 4)) wNil))))) wNil)))) (wRet (wOp opAdd (wOp opAdd (wSl (wVar 1) wNo (wSo (wVar 8))) (wTup (wCons (wCall 2 Φ__law_some (wCons (wVar 0) (wCons (wLst (wCons (wC (.int 0)) (wCons (wC (.int 1)) (wCons (wC (.int 2)) (wCons (wC (.int 5)) (wCons (wC (.int 6)) (wCons (wC (.int 24)) (wCons (wC (.int 25)) (wCons (wC (.int 59)) (wCons (wC (.int 60)) (wCons (wC (.int 61)) (wCons (wC (.bool true)) (wCons (wC .none) (wCons (wNeg (wC (.int 1))) (wCons (wOp opIx (wVar 1) (wVar 8)) wNil))))))))))))))) wNil))) wNil))) (wSl (wVar 1) (wSo (wOp opAdd (wVar 8) (wC (.int 1)))) wNo))))
def w__law_bent_4 : WS := (wSeq (wIfS (wTv (wOp opEq (wVar 2) (wC (.int 5)))) (wRet (wCall 2 Φ__law_some (wCons (wVar 0) (wCons (wLst (wCons (wC .none) (wCons (wTup wNil) (wCons (wCB bList (wCons (wVar 1) wNil)) (wCons (wSl (wVar 1) wNo (wSo (wC (.int 4)))) (wCons (wOp opAdd (wVar 1) (wTup (wCons (wC (.int 0)) wNil))) wNil)))))) wNil)))) wSkip) w__law_bent_3)
def w__law_bent_5 : WS := (wSeq (wIfS (wTv (wOp opEq (wVar 2) (wC (.int 4)))) (wRet (wOp opAdd (wOp opAdd (wSl (wVar 1) wNo (wSo (wC (.int 1)))) (wTup (wCons (wCall 2 Φ__law_some (wCons (wVar 0) (wCons (wLst (wCons (wRev (wOp opIx (wVar 1) (wC (.int 1)))) (wCons (wSl (wOp opIx (wVar 1) (wC (.int 1))) wNo (wSo (wC (.int 1)))) (wCons (wTup wNil) (wCons (wCB bList (wCons (wOp opIx (wVar 1) (wC (.int 1))) wNil)) wNil))))) wNil))) wNil))) (wSl (wVar 1) (wSo (wC (.int 2))) wNo))) wSkip) w__law_bent_4)
def w__law_bent_6 : WS := (wSeq (wIfS (wTv (wOp opLt (wVar 2) (wC (.int 4)))) (wSeq (wAsg (bTup (bCons (bName 4) (bCons (bName 5) (bCons (bName 6) bNil)))) (wOp opIx (wOp opIx (wVar 1) (wC (.int 1))) (wVar 3))) w__law_bent_2) wSkip) w__law_bent_5)
def w__law_bent : WS := (wSeq (wPar 2 3 (wCons (wCall 2 Φ__law_take (wCons (wVar 0) (wCons (wC (.int 8)) wNil))) (wCons (wCall 2 Φ__law_take (wCons (wVar 0) (wCons (wCB bLen (wCons (wOp opIx (wVar 1) (wC (.int 1))) wNil)) wNil))) wNil))) w__law_bent_6)
def V__law_bent : Prop := ∀ (ys : List Val) (R : Val → Prop) (Ex : Xn → Prop), ys.length = 2 → ys.all argOk = true → Φ__law_bent ys R Ex → w__law_bent (endW R Ex) (start0 N__law_bent ys)
set_option maxHeartbeats 4000000 in
theorem s__law_bent (B : Bs mg) (S : Src K mg "_law_bent" "_law_bent" st__law_bent ["bag", "harp"]) (d__law_take : Dfn P w K mg base TT kc "_law_take" 1 2 Φ__law_take) (d__law_some : Dfn P w K mg base TT kc "_law_some" 2 2 Φ__law_some) (v : V__law_bent) : Dfn P w K mg base TT kc "_law_bent" 3 2 Φ__law_bent := by
  refine dfn_of (k := 2) S sc__law_bent (fun f cdv A outer s H E Z ow hm hc hr hT gr => ?_) v
  have tk := takes_of (X := cxOf (L2.CX P w) P w K mg base N__law_bent "_law_bent" (defScope st__law_bent) f cdv A outer s H E) rfl rfl rfl rfl
  have po : PassesOwn (model P w) (cxOf (L2.CX P w) P w K mg base N__law_bent "_law_bent" (defScope st__law_bent) f cdv A outer s H E).A (cxOf (L2.CX P w) P w K mg base N__law_bent "_law_bent" (defScope st__law_bent) f cdv A outer s H E).env (cxOf (L2.CX P w) P w K mg base N__law_bent "_law_bent" (defScope st__law_bent) f cdv A outer s H E).xe := passes_of rfl
  have hu := room_hu hr
  skip
  exact (sim_bcons (sim_par 2 3 rfl (sim_cons (sim_callD d__law_take hT hr (by decide) tk rfl (sim_cons (sim_var 0) (sim_cons sim_int sim_nil))) (sim_cons (sim_callD d__law_take hT hr (by decide) tk rfl (sim_cons (sim_var 0) (sim_cons (sim_callB cd_len rfl B.b_len (by decide +kernel) (sim_cons (sim_ix (sim_var 1) sim_int) sim_nil)) sim_nil))) sim_nil)) sc__law_bent.nd) (sim_bcons (sim_if (sim_tcmp or_lt (sim_var 2) sim_int) (sim_bcons (sim_asg (sim_ix (sim_ix (sim_var 1) sim_int) (sim_var 3)) (sim_btup rfl (sim_btcons (sim_bname 4 sc__law_bent.nd) (sim_btcons (sim_bname 5 sc__law_bent.nd) (sim_btcons (sim_bname 6 sc__law_bent.nd) sim_btnil))) (bCons_len bName_has (bCons_len bName_has (bCons_len bName_has bNil_len))))) (sim_bcons (sim_setD 7 (sim_lst (sim_cons (sim_tup (sim_cons (sim_var 4) (sim_cons (sim_var 5) (sim_cons sim_int sim_nil)))) (sim_cons (sim_tup (sim_cons (sim_var 4) (sim_cons (sim_ix (sim_var 1) sim_int) (sim_cons (sim_var 6) sim_nil)))) (sim_cons (sim_tup (sim_cons (sim_ix (sim_ix (sim_ix (sim_var 1) sim_int) sim_int) sim_int) (sim_cons (sim_var 5) (sim_cons (sim_var 6) sim_nil)))) (sim_cons (sim_tup (sim_cons (sim_var 4) (sim_cons (sim_op or_add (sim_var 5) sim_int) (sim_cons (sim_var 6) sim_nil)))) (sim_cons (sim_tup (sim_cons sim_str (sim_cons (sim_var 5) (sim_cons (sim_var 6) sim_nil)))) (sim_cons (sim_tup (sim_cons sim_str (sim_cons (sim_var 5) (sim_cons (sim_var 6) sim_nil)))) (sim_cons (sim_tup (sim_cons (sim_var 4) (sim_cons sim_bl (sim_cons (sim_var 6) sim_nil)))) (sim_cons (sim_tup (sim_cons (sim_var 4) (sim_cons (sim_var 5) (sim_cons (sim_neg sim_int) sim_nil)))) sim_nil))))))))) sc__law_bent.nd) (sim_bcons (sim_setD 7 (sim_op or_add (sim_var 7) (sim_lst (sim_cons (sim_tup (sim_cons (sim_var 4) (sim_cons (sim_var 5) sim_nil))) (sim_cons (sim_lst (sim_cons (sim_var 4) (sim_cons (sim_var 5) (sim_cons (sim_var 6) sim_nil)))) (sim_cons sim_non (sim_cons (sim_tup (sim_cons sim_str (sim_cons (sim_var 5) (sim_cons (sim_var 6) sim_nil)))) (sim_cons (sim_tup (sim_cons (sim_var 4) (sim_cons (sim_ix (sim_ix (sim_ix (sim_var 1) sim_int) sim_int) sim_int) (sim_cons (sim_var 6) sim_nil)))) sim_nil))))))) sc__law_bent.nd) (sim_bone (sim_ret (sim_op or_add (sim_op or_add (sim_sl (sim_var 1) sim_no (sim_so sim_int)) (sim_tup (sim_cons (sim_op or_add (sim_op or_add (sim_sl (sim_ix (sim_var 1) sim_int) sim_no (sim_so (sim_var 3))) (sim_tup (sim_cons (sim_callD d__law_some hT hr (by decide) tk rfl (sim_cons (sim_var 0) (sim_cons (sim_var 7) sim_nil))) sim_nil))) (sim_sl (sim_ix (sim_var 1) sim_int) (sim_so (sim_op or_add (sim_var 3) (sim_callD d__law_take hT hr (by decide) tk rfl (sim_cons (sim_var 0) (sim_cons sim_int sim_nil))))) sim_no)) sim_nil))) (sim_sl (sim_var 1) (sim_so sim_int) sim_no))))))) sim_bnil) (sim_bcons (sim_if (sim_tcmp (or_eq (room_hu hr)) (sim_var 2) sim_int) (sim_bone (sim_ret (sim_op or_add (sim_op or_add (sim_sl (sim_var 1) sim_no (sim_so sim_int)) (sim_tup (sim_cons (sim_callD d__law_some hT hr (by decide) tk rfl (sim_cons (sim_var 0) (sim_cons (sim_lst (sim_cons (sim_rev (sim_ix (sim_var 1) sim_int)) (sim_cons (sim_sl (sim_ix (sim_var 1) sim_int) sim_no (sim_so sim_int)) (sim_cons (sim_tup sim_nil) (sim_cons (sim_callT cd_list rfl B.b_list (by decide +kernel) (sim_cons (sim_ix (sim_var 1) sim_int) sim_nil)) sim_nil))))) sim_nil))) sim_nil))) (sim_sl (sim_var 1) (sim_so sim_int) sim_no)))) sim_bnil) (sim_bcons (sim_if (sim_tcmp (or_eq (room_hu hr)) (sim_var 2) sim_int) (sim_bone (sim_ret (sim_callD d__law_some hT hr (by decide) tk rfl (sim_cons (sim_var 0) (sim_cons (sim_lst (sim_cons sim_non (sim_cons (sim_tup sim_nil) (sim_cons (sim_callT cd_list rfl B.b_list (by decide +kernel) (sim_cons (sim_var 1) sim_nil)) (sim_cons (sim_sl (sim_var 1) sim_no (sim_so sim_int)) (sim_cons (sim_op or_add (sim_var 1) (sim_tup (sim_cons sim_int sim_nil))) sim_nil)))))) sim_nil))))) sim_bnil) (sim_bcons (sim_setD 8 (sim_callD d__law_some hT hr (by decide) tk rfl (sim_cons (sim_var 0) (sim_cons (sim_lst (sim_cons sim_int (sim_cons sim_int (sim_cons sim_int (sim_cons sim_int sim_nil))))) sim_nil))) sc__law_bent.nd) (sim_bone (sim_ret (sim_op or_add (sim_op or_add (sim_sl (sim_var 1) sim_no (sim_so (sim_var 8))) (sim_tup (sim_cons (sim_callD d__law_some hT hr (by decide) tk rfl (sim_cons (sim_var 0) (sim_cons (sim_lst (sim_cons sim_int (sim_cons sim_int (sim_cons sim_int (sim_cons sim_int (sim_cons sim_int (sim_cons sim_int (sim_cons sim_int (sim_cons sim_int (sim_cons sim_int (sim_cons sim_int (sim_cons sim_bl (sim_cons sim_non (sim_cons (sim_neg sim_int) (sim_cons (sim_ix (sim_var 1) (sim_var 8)) sim_nil))))))))))))))) sim_nil))) sim_nil))) (sim_sl (sim_var 1) (sim_so (sim_op or_add (sim_var 8) sim_int)) sim_no)))))))))
abbrev st_law : Stmt := top 39
def N_law : List Str := ["script", "bag", "lap", "harp", "things", "turn", "bent", "thing", "rows", "k", "sign", "many", "great"]
theorem sc_law : FnScope N_law ["script"] (defScope st_law) := ⟨rfl, rfl, rfl, by decide +kernel, rfl, by decide +kernel, by decide +kernel⟩
def psc_law_160_26 : Scope := { kind := PySem.ScopeKind.function, names := [ (PySem.Str.ofString ".0", PySem.NameKind.local), (PySem.Str.ofString "turn", PySem.NameKind.local), (PySem.Str.ofString "_law_bent", PySem.NameKind.globalImplicit), (PySem.Str.ofString "bag", PySem.NameKind.free), (PySem.Str.ofString "harp", PySem.NameKind.free)], isGenerator := false, isCoroutine := false, more := [] : PySem.Scope }
def w_law_1 : WS := (wSeq (wMt 4 mAppend (wCons (wIf (wTand (wTv (wCall 1 Φ__law_is_form (wCons (wVar 6) wNil))) (wTv (wOp opNe (wOp opIx (wVar 6) (wC (.int 1))) (wTup wNil)))) (wCall 2 Φ__law_bent (wCons (wVar 1) (wCons (wVar 6) wNil))) (wVar 6)) wNil)) (wFrz 4 (wFor (wItL (wVar 4)) (bName 7) (wIfS (wTnot (wTv (wCall 2 Φ__law_alike (wCons (wRaised "told" [("BadHarp", "harp", ["where", "fault"]), ("TooLarge", "large", ["what", "limit"])] (wCall 1 Φ_checked_harp (wCons (wVar 7) wNil))) (wCons (wCall 1 Φ__law_due (wCons (wVar 7) wNil)) wNil))))) (wRet (wC (.bool false))) wSkip))))
def w_law_2 : WS := (wSeq (wSetD 6 (wCall 2 Φ__law_bent (wCons (wVar 1) (wCons (wVar 3) wNil)))) w_law_1)
def w_law_3 : WS := (wSeq (wSet 4 (wOp opAdd (wLst (wCons (wVar 3) wNil)) (wLc (wRng1 (wCons (wC (.int 8)) wNil)) (bName 5) wYes (wCall 2 Φ__law_bent (wCons (wVar 1) (wCons (wVar 3) wNil))) [5]))) w_law_2)
def psc_law_166_17 : Scope := { kind := PySem.ScopeKind.function, names := [ (PySem.Str.ofString ".0", PySem.NameKind.local), (PySem.Str.ofString "k", PySem.NameKind.local), (PySem.Str.ofString "sign", PySem.NameKind.local), (PySem.Str.ofString "_law_take", PySem.NameKind.globalImplicit), (PySem.Str.ofString "bag", PySem.NameKind.free)], isGenerator := false, isCoroutine := false, more := [] : PySem.Scope }
def w_law_4 : WS := (wSeq (wFor (wIt (wTup (wCons (wC (.int 8)) (wCons (wC (.int 9)) (wCons (wC (.int 10)) wNil))))) (bName 11) (wSeq (wSetD 12 (wTup (wCons (wC (.int 24)) (wCons (wSl (wVar 8) wNo (wSo (wVar 11))) (wCons (wC (.int 60)) (wCons (wC (.int 5)) (wCons (wC (.int 59)) wNil))))))) (wIfS (wTnot (wTv (wCall 2 Φ__law_alike (wCons (wRaised "told" [("BadHarp", "harp", ["where", "fault"]), ("TooLarge", "large", ["what", "limit"])] (wCall 1 Φ_checked_harp (wCons (wVar 12) wNil))) (wCons (wCall 1 Φ__law_due (wCons (wVar 12) wNil)) wNil))))) (wRet (wC (.bool false))) wSkip))) (wRet (wC (.bool true))))
def w_law_5 : WS := (wSeq (wSetD 8 (wCB bTuple (wCons (wLc (wEnumS (wCons (wC (.str "abcdefghij")) wNil)) (bTup (bCons (bName 9) (bCons (bName 10) bNil))) wYes (wTup (wCons (wOp opAdd (wC (.str "l")) (wVar 10)) (wCons (wVar 9) (wCons (wCall 2 Φ__law_take (wCons (wVar 1) (wCons (wC (.int 2)) wNil))) wNil)))) [9, 10]) wNil))) w_law_4)
def w_law : WS := (wSeq (wFor (wRng1 (wCons (wC (.int 8)) wNil)) (bName 2) (wSeq (wSetD 3 (wCall 3 Φ__law_harp (wCons (wVar 1) (wCons (wC (.int 3)) (wCons (wC (.int 9)) wNil))))) w_law_3)) w_law_5)
set_option maxHeartbeats 0 in
theorem s_law (B : Bs mg) (d__law_harp : Dfn P w K mg base TT kc "_law_harp" 3 3 Φ__law_harp) (d__law_bent : Dfn P w K mg base TT kc "_law_bent" 3 2 Φ__law_bent) (d__law_is_form : Dfn P w K mg base TT kc "_law_is_form" 2 1 Φ__law_is_form) (d__law_alike : Gfn P w K mg base TT kc "_law_alike" 1 2 Φ__law_alike) (d__law_due : Dfn P w K mg base TT kc "_law_due" 3 1 Φ__law_due) (d_checked_harp : Dfn P w K mg base TT kc "checked_harp" 15 1 Φ_checked_harp) (d__law_take : Dfn P w K mg base TT kc "_law_take" 1 2 Φ__law_take) {c PT : Addr} (TB : LamX.TabB base mg c PT) (hcd : ∀ f, mg "law" = some (.ref f) → CodeOf K f (.ref c)) (hmT : (PT, (("law" : Str) ++ ".<locals>." ++ "<lambda>" : Str)) ∈ TT) (hmu : ∀ p ∈ TT, p.1 = PT → p.2 = (("law" : Str) ++ ".<locals>." ++ "<lambda>" : Str)) {g__law_raised : Addr} {fd__law_raised : FuncData} (F__law_raised : Fun K "_law_raised" "_law_raised" st__law_raised g__law_raised fd__law_raised) (m__law_raised : mg "_law_raised" = some (.ref g__law_raised)) (b__law_raised : L2.Binds K fd__law_raised ["act"] []) {C_BadHarp : Addr} (c_BadHarp : mg "BadHarp" = some (.ref C_BadHarp)) {C_TooLarge : Addr} (c_TooLarge : mg "TooLarge" = some (.ref C_TooLarge)) (xf_BadHarp : XfC K C_BadHarp) (nf_BadHarp_where : PySem.W.findIn K (.ref C_BadHarp) "where" = some none) (nf_BadHarp_fault : PySem.W.findIn K (.ref C_BadHarp) "fault" = some none) (xf_TooLarge : XfC K C_TooLarge) (nf_TooLarge_what : PySem.W.findIn K (.ref C_TooLarge) "what" = some none) (nf_TooLarge_limit : PySem.W.findIn K (.ref C_TooLarge) "limit" = some none) (ap__law_raised : Apart K mg ["BadHarp", "TooLarge"] [("BadHarp", "harp", ["where", "fault"]), ("TooLarge", "large", ["what", "limit"])] [(C_BadHarp, "harp", ["where", "fault"]), (C_TooLarge, "large", ["what", "limit"])]) {f : Addr} {cdv : Value} {A : Around} {outer : List Env} {s : Shared} {H : Hp} {E : XK} {Z : Ext} {ow : List Addr} {Hb : Hp} (hm : mg "law" = some (.ref f)) (hc : CodeOf K f cdv) (hgd : (cxOf (L2.CX P w) P w K mg base N_law "law" (defScope st_law) f cdv A outer s H E).A.guards = some []) (hr : Room 17 (cxOf (L2.CX P w) P w K mg base N_law "law" (defScope st_law) f cdv A outer s H E).A) (hT : ZOk P w TT Z) (gr : Gr Z ow Hb) :
    SimSs (cxOf (L2.CX P w) P w K mg base N_law "law" (defScope st_law) f cdv A outer s H E) (fun cls d _ H' => E cls d H') Z (Clb P w K mg base kc Z) ow Hb (defBody st_law).tail w_law := by
  have tk := takes_of (X := cxOf (L2.CX P w) P w K mg base N_law "law" (defScope st_law) f cdv A outer s H E) rfl rfl rfl rfl
  have po : PassesOwn (model P w) (cxOf (L2.CX P w) P w K mg base N_law "law" (defScope st_law) f cdv A outer s H E).A (cxOf (L2.CX P w) P w K mg base N_law "law" (defScope st_law) f cdv A outer s H E).env (cxOf (L2.CX P w) P w K mg base N_law "law" (defScope st_law) f cdv A outer s H E).xe := passes_of rfl
  have hu := room_hu hr
  have hcode : cdv = .ref c := hc.one (hcd f hm)
  exact (sim_bcons (sim_for po rfl (sim_rng1 rfl B.b_range (sim_cons sim_int sim_nil)) (sim_bname 2 sc_law.nd) (sim_bcons (sim_setD 3 (sim_callD d__law_harp hT hr (by decide) tk rfl (sim_cons (sim_var 1) (sim_cons sim_int (sim_cons sim_int sim_nil)))) sc_law.nd) (sim_bcons (sim_set 4 (sim_op or_add (sim_lst (sim_cons (sim_var 3) sim_nil)) (sim_lc (own := [("turn", 5)]) rfl sc_law.nd gr (sim_rng1 rfl B.b_range (sim_cons sim_int sim_nil)) (blkOk_by (N := N_law) (sc := defScope st_law) (by decide +kernel)) (by decide) (fun s H C cl fp => (sim_bname 5 sc_law.nd)) (fun s H C cl fp => sim_tsnil) (fun s H C cl fp => (sim_callD d__law_bent hT hr (by decide) LamX.takes0 rfl (sim_cons (sim_var 1) (sim_cons (sim_var 3) sim_nil)))))) sc_law.nd) (sim_bcons (sim_setD 6 (sim_callD d__law_bent hT hr (by decide) tk rfl (sim_cons (sim_var 1) (sim_cons (sim_var 3) sim_nil))) sc_law.nd) (sim_bcons (sim_mt mt_append mo_append 4 PySem.F.slot_list_append PySem.F.type_list_append (sim_cons (sim_ifx (SimW.t (sim_and (sim_tv (sim_callD d__law_is_form hT hr (by decide) tk rfl (sim_cons (sim_var 6) sim_nil))) (sim_and1 (sim_tcmp (or_ne (room_hu hr)) (sim_ix (sim_var 6) sim_int) (sim_tup sim_nil))))) (sim_callD d__law_bent hT hr (by decide) tk rfl (sim_cons (sim_var 1) (sim_cons (sim_var 6) sim_nil))) (sim_var 6)) sim_nil)) (sim_frz 4 gr (sim_bone (sim_for po rfl (sim_itL (sim_var 4)) (sim_bname 7 sc_law.nd) (sim_bone (sim_if (sim_tnot (sim_tv (sim_callGD d__law_alike hT hgd hr (by decide) tk rfl (sim_cons (sim_raised (k := 15) (xs := ["BadHarp", "TooLarge"]) F__law_raised rfl m__law_raised b__law_raised sc__law_raised rfl (Or.inl rfl) (fun cdg q => catch_gives sc__law_raised.nd (fun s H => (CatchOk.two (i := 1) ⟨rfl, by decide, .inl c_BadHarp⟩ rfl rfl (Or.inl rfl) xf_BadHarp nf_BadHarp_where nf_BadHarp_fault (CatchOk.two (i := 1) ⟨rfl, by decide, .inl c_TooLarge⟩ rfl rfl (Or.inl rfl) xf_TooLarge nf_TooLarge_what nf_TooLarge_limit CatchOk.nil))) fun _ => rfl) ap__law_raised hcl_of TB hcode (by rw [hT.tabs]; exact hmT) (by rw [hT.tabs]; exact hmu) (hr.mono (by decide)) (LamX.lamS_by (by show LamX.lamSB (defScope st_law) _ = true; decide +kernel)) rfl (fun _ _ _ _ _ => rfl) (fun A outer s H E f c' hr => (sim_callD d_checked_harp hT hr (by decide) (takes_of rfl rfl rfl rfl) rfl (sim_cons (sim_var 7) sim_nil)))) (sim_cons (sim_callD d__law_due hT hr (by decide) tk rfl (sim_cons (sim_var 7) sim_nil)) sim_nil))))) (sim_bone (sim_ret sim_bl)) sim_bnil)))))))))) (sim_bcons (sim_setD 8 (sim_callT cd_tuple rfl B.b_tuple (by decide +kernel) (sim_cons (sim_lc (own := [("k", 9), ("sign", 10)]) rfl sc_law.nd gr (sim_enumS rfl B.b_enumerate (sim_cons sim_str sim_nil)) (blkOk_by (N := N_law) (sc := defScope st_law) (by decide +kernel)) (by decide) (fun s H C cl fp => (sim_btup rfl (sim_btcons (sim_bname 9 sc_law.nd) (sim_btcons (sim_bname 10 sc_law.nd) sim_btnil)) (bCons_len bName_has (bCons_len bName_has bNil_len)))) (fun s H C cl fp => sim_tsnil) (fun s H C cl fp => (sim_tup (sim_cons (sim_op or_add sim_str (sim_var 10)) (sim_cons (sim_var 9) (sim_cons (sim_callD d__law_take hT hr (by decide) LamX.takes0 rfl (sim_cons (sim_var 1) (sim_cons sim_int sim_nil))) sim_nil)))))) sim_nil)) sc_law.nd) (sim_bcons (sim_for po rfl (sim_it (sim_tup (sim_cons sim_int (sim_cons sim_int (sim_cons sim_int sim_nil))))) (sim_bname 11 sc_law.nd) (sim_bcons (sim_setD 12 (sim_tup (sim_cons sim_int (sim_cons (sim_sl (sim_var 8) sim_no (sim_so (sim_var 11))) (sim_cons sim_int (sim_cons sim_int (sim_cons sim_int sim_nil)))))) sc_law.nd) (sim_bone (sim_if (sim_tnot (sim_tv (sim_callGD d__law_alike hT hgd hr (by decide) tk rfl (sim_cons (sim_raised (k := 15) (xs := ["BadHarp", "TooLarge"]) F__law_raised rfl m__law_raised b__law_raised sc__law_raised rfl (Or.inl rfl) (fun cdg q => catch_gives sc__law_raised.nd (fun s H => (CatchOk.two (i := 1) ⟨rfl, by decide, .inl c_BadHarp⟩ rfl rfl (Or.inl rfl) xf_BadHarp nf_BadHarp_where nf_BadHarp_fault (CatchOk.two (i := 1) ⟨rfl, by decide, .inl c_TooLarge⟩ rfl rfl (Or.inl rfl) xf_TooLarge nf_TooLarge_what nf_TooLarge_limit CatchOk.nil))) fun _ => rfl) ap__law_raised hcl_of TB hcode (by rw [hT.tabs]; exact hmT) (by rw [hT.tabs]; exact hmu) (hr.mono (by decide)) (LamX.lamS_by (by show LamX.lamSB (defScope st_law) _ = true; decide +kernel)) rfl (fun _ _ _ _ _ => rfl) (fun A outer s H E f c' hr => (sim_callD d_checked_harp hT hr (by decide) (takes_of rfl rfl rfl rfl) rfl (sim_cons (sim_var 12) sim_nil)))) (sim_cons (sim_callD d__law_due hT hr (by decide) tk rfl (sim_cons (sim_var 12) sim_nil)) sim_nil))))) (sim_bone (sim_ret sim_bl)) sim_bnil)))) (sim_bone (sim_ret sim_bl)))))
end
end Pd

namespace Pd
open PySem PySem.Spec PyProof.Rows L2
theorem v_is_number : V_is_number := by
  intro ys R Ex hl ha h
  obtain ⟨x, rfl, h⟩ := h
  show w_is_number (endW R Ex) [some (.d x)]
  simp only [w_is_number, wSeq, wIfS, wSkip, wRet, wRetN, wRetL, wRaise0, wSetD, wSet, wAug, wAsg, wMt, wFor, wDo, wFrz, wBagSet, wBagAdd, wBagCell, wBag, wVar, wC, wOp, wNeg, wTv, wTnot, wTand, wTor, wAnd, wOr, wNot, wIf, wChain, wIsN, wIsi, wNil, wCons, wStar, wTup, wLst, wCB, wCall, wCallV, wCallL, wFnA, wHeard, wSl, wSo, wNo, wRng1, wRng2, wRng3, wIt, wItL, wItS, wLc, wYes, wSortedSet, bName, bTup, bCons, bNil, op1, op2i, bLen, bAbs, bMax2, bMin2, bInt, bTuple, bList, bAll, bAny, bSum, bRepr, opAdd, opSub, opMul, opMod, opFdiv, opPow, opCmp, opEq, opNe, opInB, opIsB, opIx, opSl, mAppend, mInsert, mExtend, keeps, toArgs, toArg, Val.rd, Val.kp, brw, slv, isNon, noFn, endW, wipeE, List.getElem?_cons_zero, List.getElem?_cons_succ, List.map_cons, List.map_nil, List.cons_append, List.nil_append, List.set_cons_zero, List.set_cons_succ, List.length_cons, List.length_nil, Bool.false_xor, Bool.true_xor, wEnum, wZip, bSorted, bStr, wFmt, wJoined, wJcons, wJnil, wLR1, wTR3, wPm, pIndex, reads, tyD, opRepT, wLc2, wUnp, wUcons, wThaw, wThawT, wRev, wRaise2, wRaised, opCmpD, bBest, wSortedKeys, wIntE, wDNew, wpRoot, wpSub, opIxT, opInT, bLenT, kidK, kidV, isKey, wAsgG, gB, gNl, gCn, gTp, gSb, setAt, wPAug, intAt, slotT, asT, ofT]
  unfold isNum at h
  cases e : isIntD x <;> simp_all
theorem v_is_index : V_is_index := by
  intro ys R Ex hl ha h
  obtain ⟨x, rfl, h⟩ := h
  show w_is_index (endW R Ex) [some (.d x)]
  simp only [w_is_index, wSeq, wIfS, wSkip, wRet, wRetN, wRetL, wRaise0, wSetD, wSet, wAug, wAsg, wMt, wFor, wDo, wFrz, wBagSet, wBagAdd, wBagCell, wBag, wVar, wC, wOp, wNeg, wTv, wTnot, wTand, wTor, wAnd, wOr, wNot, wIf, wChain, wIsN, wIsi, wNil, wCons, wStar, wTup, wLst, wCB, wCall, wCallV, wCallL, wFnA, wHeard, wSl, wSo, wNo, wRng1, wRng2, wRng3, wIt, wItL, wItS, wLc, wYes, wSortedSet, bName, bTup, bCons, bNil, op1, op2i, bLen, bAbs, bMax2, bMin2, bInt, bTuple, bList, bAll, bAny, bSum, bRepr, opAdd, opSub, opMul, opMod, opFdiv, opPow, opCmp, opEq, opNe, opInB, opIsB, opIx, opSl, mAppend, mInsert, mExtend, keeps, toArgs, toArg, Val.rd, Val.kp, brw, slv, isNon, noFn, endW, wipeE, List.getElem?_cons_zero, List.getElem?_cons_succ, List.map_cons, List.map_nil, List.cons_append, List.nil_append, List.set_cons_zero, List.set_cons_succ, List.length_cons, List.length_nil, Bool.false_xor, Bool.true_xor, wEnum, wZip, bSorted, bStr, wFmt, wJoined, wJcons, wJnil, wLR1, wTR3, wPm, pIndex, reads, tyD, opRepT, wLc2, wUnp, wUcons, wThaw, wThawT, wRev, wRaise2, wRaised, opCmpD, bBest, wSortedKeys, wIntE, wDNew, wpRoot, wpSub, opIxT, opInT, bLenT, kidK, kidV, isKey, wAsgG, gB, gNl, gCn, gTp, gSb, setAt, wPAug, intAt, slotT, asT, ofT, Φ_is_number]
  refine ⟨trivial, x, rfl, ?_⟩
  cases x with
  | int i => simpa [isNum, isIntD, isBoolD, isIndex] using h
  | _ => simpa [isNum, isIntD, isBoolD, isIndex] using h
theorem v_is_sized : V_is_sized := by
  intro ys R Ex hl ha h
  obtain ⟨x, m, rfl, h⟩ := h
  show w_is_sized (endW R Ex) [some (.d x), some (.d (.int m))]
  simp only [w_is_sized, wSeq, wIfS, wSkip, wRet, wRetN, wRetL, wRaise0, wSetD, wSet, wAug, wAsg, wMt, wFor, wDo, wFrz, wBagSet, wBagAdd, wBagCell, wBag, wVar, wC, wOp, wNeg, wTv, wTnot, wTand, wTor, wAnd, wOr, wNot, wIf, wChain, wIsN, wIsi, wNil, wCons, wStar, wTup, wLst, wCB, wCall, wCallV, wCallL, wFnA, wHeard, wSl, wSo, wNo, wRng1, wRng2, wRng3, wIt, wItL, wItS, wLc, wYes, wSortedSet, bName, bTup, bCons, bNil, op1, op2i, bLen, bAbs, bMax2, bMin2, bInt, bTuple, bList, bAll, bAny, bSum, bRepr, opAdd, opSub, opMul, opMod, opFdiv, opPow, opCmp, opEq, opNe, opInB, opIsB, opIx, opSl, mAppend, mInsert, mExtend, keeps, toArgs, toArg, Val.rd, Val.kp, brw, slv, isNon, noFn, endW, wipeE, List.getElem?_cons_zero, List.getElem?_cons_succ, List.map_cons, List.map_nil, List.cons_append, List.nil_append, List.set_cons_zero, List.set_cons_succ, List.length_cons, List.length_nil, Bool.false_xor, Bool.true_xor, wEnum, wZip, bSorted, bStr, wFmt, wJoined, wJcons, wJnil, wLR1, wTR3, wPm, pIndex, reads, tyD, opRepT, wLc2, wUnp, wUcons, wThaw, wThawT, wRev, wRaise2, wRaised, opCmpD, bBest, wSortedKeys, wIntE, wDNew, wpRoot, wpSub, opIxT, opInT, bLenT, kidK, kidV, isKey, wAsgG, gB, gNl, gCn, gTp, gSb, setAt, wPAug, intAt, slotT, asT, ofT]
  cases x with
  | tuple ds =>
    simp only [isTupleD, if_true, wSeq, wIfS, wSkip, wRet, wRetN, wRetL, wRaise0, wSetD, wSet, wAug, wAsg, wMt, wFor, wDo, wFrz, wBagSet, wBagAdd, wBagCell, wBag, wVar, wC, wOp, wNeg, wTv, wTnot, wTand, wTor, wAnd, wOr, wNot, wIf, wChain, wIsN, wIsi, wNil, wCons, wStar, wTup, wLst, wCB, wCall, wCallV, wCallL, wFnA, wHeard, wSl, wSo, wNo, wRng1, wRng2, wRng3, wIt, wItL, wItS, wLc, wYes, wSortedSet, bName, bTup, bCons, bNil, op1, op2i, bLen, bAbs, bMax2, bMin2, bInt, bTuple, bList, bAll, bAny, bSum, bRepr, opAdd, opSub, opMul, opMod, opFdiv, opPow, opCmp, opEq, opNe, opInB, opIsB, opIx, opSl, mAppend, mInsert, mExtend, keeps, toArgs, toArg, Val.rd, Val.kp, brw, slv, isNon, noFn, endW, wipeE, List.getElem?_cons_zero, List.getElem?_cons_succ, List.map_cons, List.map_nil, List.cons_append, List.nil_append, List.set_cons_zero, List.set_cons_succ, List.length_cons, List.length_nil, Bool.false_xor, Bool.true_xor, wEnum, wZip, bSorted, bStr, wFmt, wJoined, wJcons, wJnil, wLR1, wTR3, wPm, pIndex, reads, tyD, opRepT, wLc2, wUnp, wUcons, wThaw, wThawT, wRev, wRaise2, wRaised, opCmpD, bBest, wSortedKeys, wIntE, wDNew, wpRoot, wpSub, opIxT, opInT, bLenT, kidK, kidV, isKey, wAsgG, gB, gNl, gCn, gTp, gSb, setAt, wPAug, intAt, slotT, asT, ofT]
    refine ⟨by simp [PyData.depth], ?_⟩
    have e : PyData.eqv (.int (ds.length : Nat)) (.int m) = decide ((ds.length : Int) = m) := by
      simp only [PyData.eqv]; rw [Bool.eq_iff_iff]; simp
    rw [e]
    exact h
  | _ => simpa [isTupleD, isSized] using h
theorem v_is_tuple_of : V_is_tuple_of := by
  intro ys R Ex hl ha h
  obtain ⟨x, f, φ, rfl, h⟩ := h
  show w_is_tuple_of (endW R Ex) [some (.d x), some (.fn f φ), none]
  simp only [w_is_tuple_of, wSeq, wIfS, wSkip, wRet, wRetN, wRetL, wRaise0, wSetD, wSet, wAug, wAsg, wMt, wFor, wDo, wFrz, wBagSet, wBagAdd, wBagCell, wBag, wVar, wC, wOp, wNeg, wTv, wTnot, wTand, wTor, wAnd, wOr, wNot, wIf, wChain, wIsN, wIsi, wNil, wCons, wStar, wTup, wLst, wCB, wCall, wCallV, wCallL, wFnA, wHeard, wSl, wSo, wNo, wRng1, wRng2, wRng3, wIt, wItL, wItS, wLc, wYes, wSortedSet, bName, bTup, bCons, bNil, op1, op2i, bLen, bAbs, bMax2, bMin2, bInt, bTuple, bList, bAll, bAny, bSum, bRepr, opAdd, opSub, opMul, opMod, opFdiv, opPow, opCmp, opEq, opNe, opInB, opIsB, opIx, opSl, mAppend, mInsert, mExtend, keeps, toArgs, toArg, Val.rd, Val.kp, brw, slv, isNon, noFn, endW, wipeE, List.getElem?_cons_zero, List.getElem?_cons_succ, List.map_cons, List.map_nil, List.cons_append, List.nil_append, List.set_cons_zero, List.set_cons_succ, List.length_cons, List.length_nil, Bool.false_xor, Bool.true_xor, wEnum, wZip, bSorted, bStr, wFmt, wJoined, wJcons, wJnil, wLR1, wTR3, wPm, pIndex, reads, tyD, opRepT, wLc2, wUnp, wUcons, wThaw, wThawT, wRev, wRaise2, wRaised, opCmpD, bBest, wSortedKeys, wIntE, wDNew, wpRoot, wpSub, opIxT, opInT, bLenT, kidK, kidV, isKey, wAsgG, gB, gNl, gCn, gTp, gSb, setAt, wPAug, intAt, slotT, asT, ofT]
  rcases h with ⟨ds, g, rfl, hφ, hR⟩ | ⟨hx, hR⟩
  · simp only [isTupleD, if_true, wSeq, wIfS, wSkip, wRet, wRetN, wRetL, wRaise0, wSetD, wSet, wAug, wAsg, wMt, wFor, wDo, wFrz, wBagSet, wBagAdd, wBagCell, wBag, wVar, wC, wOp, wNeg, wTv, wTnot, wTand, wTor, wAnd, wOr, wNot, wIf, wChain, wIsN, wIsi, wNil, wCons, wStar, wTup, wLst, wCB, wCall, wCallV, wCallL, wFnA, wHeard, wSl, wSo, wNo, wRng1, wRng2, wRng3, wIt, wItL, wItS, wLc, wYes, wSortedSet, bName, bTup, bCons, bNil, op1, op2i, bLen, bAbs, bMax2, bMin2, bInt, bTuple, bList, bAll, bAny, bSum, bRepr, opAdd, opSub, opMul, opMod, opFdiv, opPow, opCmp, opEq, opNe, opInB, opIsB, opIx, opSl, mAppend, mInsert, mExtend, keeps, toArgs, toArg, Val.rd, Val.kp, brw, slv, isNon, noFn, endW, wipeE, List.getElem?_cons_zero, List.getElem?_cons_succ, List.map_cons, List.map_nil, List.cons_append, List.nil_append, List.set_cons_zero, List.set_cons_succ, List.length_cons, List.length_nil, Bool.false_xor, Bool.true_xor, wEnum, wZip, bSorted, bStr, wFmt, wJoined, wJcons, wJnil, wLR1, wTR3, wPm, pIndex, reads, tyD, opRepT, wLc2, wUnp, wUcons, wThaw, wThawT, wRev, wRaise2, wRaised, opCmpD, bBest, wSortedKeys, wIntE, wDNew, wpRoot, wpSub, opIxT, opInT, bLenT, kidK, kidV, isKey, wAsgG, gB, gNl, gCn, gTp, gSb, setAt, wPAug, intAt, slotT, asT, ofT]
    refine lcW_map (fun d => .bool (g d)) (fun d m K hK => ?_) ?_
    · simp only [wSeq, wIfS, wSkip, wRet, wRetN, wRetL, wRaise0, wSetD, wSet, wAug, wAsg, wMt, wFor, wDo, wFrz, wBagSet, wBagAdd, wBagCell, wBag, wVar, wC, wOp, wNeg, wTv, wTnot, wTand, wTor, wAnd, wOr, wNot, wIf, wChain, wIsN, wIsi, wNil, wCons, wStar, wTup, wLst, wCB, wCall, wCallV, wCallL, wFnA, wHeard, wSl, wSo, wNo, wRng1, wRng2, wRng3, wIt, wItL, wItS, wLc, wYes, wSortedSet, bName, bTup, bCons, bNil, op1, op2i, bLen, bAbs, bMax2, bMin2, bInt, bTuple, bList, bAll, bAny, bSum, bRepr, opAdd, opSub, opMul, opMod, opFdiv, opPow, opCmp, opEq, opNe, opInB, opIsB, opIx, opSl, mAppend, mInsert, mExtend, keeps, toArgs, toArg, Val.rd, Val.kp, brw, slv, isNon, noFn, endW, wipeE, List.getElem?_cons_zero, List.getElem?_cons_succ, List.map_cons, List.map_nil, List.cons_append, List.nil_append, List.set_cons_zero, List.set_cons_succ, List.length_cons, List.length_nil, Bool.false_xor, Bool.true_xor, wEnum, wZip, bSorted, bStr, wFmt, wJoined, wJcons, wJnil, wLR1, wTR3, wPm, pIndex, reads, tyD, opRepT, wLc2, wUnp, wUcons, wThaw, wThawT, wRev, wRaise2, wRaised, opCmpD, bBest, wSortedKeys, wIntE, wDNew, wpRoot, wpSub, opIxT, opInT, bLenT, kidK, kidV, isKey, wAsgG, gB, gNl, gCn, gTp, gSb, setAt, wPAug, intAt, slotT, asT, ofT]
      exact hφ d m _ hK
    · have e : ([] ++ ds.map fun d => PyData.bool (g d)) = (ds.map g).map .bool := by simp
      rw [e]
      have : boolsOf ((ds.map g).map .bool) = some (ds.map g) := by
        generalize ds.map g = l
        induction l with
        | nil => rfl
        | cons a r ih => simp [boolsOf, ih]
      simp only [wSeq, wIfS, wSkip, wRet, wRetN, wRetL, wRaise0, wSetD, wSet, wAug, wAsg, wMt, wFor, wDo, wFrz, wBagSet, wBagAdd, wBagCell, wBag, wVar, wC, wOp, wNeg, wTv, wTnot, wTand, wTor, wAnd, wOr, wNot, wIf, wChain, wIsN, wIsi, wNil, wCons, wStar, wTup, wLst, wCB, wCall, wCallV, wCallL, wFnA, wHeard, wSl, wSo, wNo, wRng1, wRng2, wRng3, wIt, wItL, wItS, wLc, wYes, wSortedSet, bName, bTup, bCons, bNil, op1, op2i, bLen, bAbs, bMax2, bMin2, bInt, bTuple, bList, bAll, bAny, bSum, bRepr, opAdd, opSub, opMul, opMod, opFdiv, opPow, opCmp, opEq, opNe, opInB, opIsB, opIx, opSl, mAppend, mInsert, mExtend, keeps, toArgs, toArg, Val.rd, Val.kp, brw, slv, isNon, noFn, endW, wipeE, List.getElem?_cons_zero, List.getElem?_cons_succ, List.map_cons, List.map_nil, List.cons_append, List.nil_append, List.set_cons_zero, List.set_cons_succ, List.length_cons, List.length_nil, Bool.false_xor, Bool.true_xor, wEnum, wZip, bSorted, bStr, wFmt, wJoined, wJcons, wJnil, wLR1, wTR3, wPm, pIndex, reads, tyD, opRepT, wLc2, wUnp, wUcons, wThaw, wThawT, wRev, wRaise2, wRaised, opCmpD, bBest, wSortedKeys, wIntE, wDNew, wpRoot, wpSub, opIxT, opInT, bLenT, kidK, kidV, isKey, wAsgG, gB, gNl, gCn, gTp, gSb, setAt, wPAug, intAt, slotT, asT, ofT, this]
      simpa using hR
  · simpa [hx] using hR
theorem v__law_take : V__law_take := by
  intro ys R Ex hl ha h
  obtain ⟨m, rfl, h0, h1, hR⟩ := h
  have md : ∀ x : Int, R (.d (.int (x % m))) := fun x => hR _ (Int.emod_nonneg x (by omega)) (Int.emod_lt_of_pos x h0)
  have tail : ∀ a b : Option Val, w__law_take_7 (endW R Ex) [some .bag, some (.d (.int m)), a, b, none, none, none] := by
    intro a b
    refine ⟨rfl, fun z hz => ?_⟩
    refine ite2 (fun _ => ?_) (fun _ => ?_)
    · refine ⟨rfl, fun z hz => ⟨h0, ⟨rfl, rfl, fun z' hz' => ⟨⟨h0, h1⟩, ⟨?_, fun k => nomatch k⟩, md z⟩⟩⟩⟩
      exact Int.ediv_nonneg hz'.1 (by omega)
    · refine ⟨rfl, fun z hz => ⟨.inr ⟨by decide, by decide⟩, by decide, ?_⟩⟩
      have b1 : 0 ≤ (z + 1) * 39373 % 1000000007 := Int.emod_nonneg _ (by decide)
      have b2 : (z + 1) * 39373 % 1000000007 < 1000000007 := Int.emod_lt_of_pos _ (by decide)
      refine ⟨.inr ⟨by omega, by omega⟩, by decide, .inr ⟨by decide, by decide⟩, by decide, ?_⟩
      exact ⟨⟨by decide, by decide⟩, h0, md _⟩
  show w__law_take (endW R Ex) [some .bag, some (.d (.int m)), none, none, none, none, none]
  refine ⟨rfl, fun z hz => ⟨by simp [PyData.depth], ?_⟩⟩
  refine ite2 (fun _ => ?_) (fun _ => tail _ _)
  refine ⟨rfl, fun c hc => ?_⟩
  refine ⟨rfl, by decide, ?_⟩
  refine ⟨⟨by decide, by decide, by decide⟩, ?_⟩
  have tail2 : w__law_take_1 { (endW R Ex) with nx := fun ρ' => w__law_take_7 (endW R Ex) ρ' } [some .bag, some (.d (.int m)), some (.d (.int c)), none, none, none, none] := by
    refine ⟨rfl, fun z1 hz1 => ⟨.inr ⟨by decide, by decide⟩, (by decide : (0 : Int) < 2147483647), rfl, fun z2 hz2 => ⟨.inl ⟨by decide, by decide⟩, ?_⟩⟩⟩
    exact ⟨rfl, (by decide : (0 : Int) < 2147483647), ⟨Int.emod_nonneg _ (by decide), fun _ => Int.lt_trans (Int.emod_lt_of_pos _ (by decide : (0 : Int) < 2147483647)) (by decide)⟩, tail _ _⟩
  refine ite2 (fun _ => ?_) (fun _ => tail2)
  exact ⟨rfl, ⟨hc, fun k => nomatch k⟩, tail2⟩
theorem v__law_some : V__law_some := by
  intro ys R Ex hl ha h
  obtain ⟨xs, rfl, hne, hlen, hR⟩ := h
  show w__law_some (endW R Ex) [some .bag, some (.d (.list xs))]
  simp only [w__law_some, wSeq, wIfS, wSkip, wRet, wRetN, wRetL, wRaise0, wSetD, wSet, wAug, wAsg, wMt, wFor, wDo, wFrz, wBagSet, wBagAdd, wBagCell, wBag, wVar, wC, wOp, wNeg, wTv, wTnot, wTand, wTor, wAnd, wOr, wNot, wIf, wChain, wIsN, wIsi, wNil, wCons, wStar, wTup, wLst, wCB, wCall, wCallV, wCallL, wFnA, wHeard, wSl, wSo, wNo, wRng1, wRng2, wRng3, wIt, wItL, wItS, wLc, wYes, wSortedSet, bName, bTup, bCons, bNil, op1, op2i, bLen, bAbs, bMax2, bMin2, bInt, bTuple, bList, bAll, bAny, bSum, bRepr, opAdd, opSub, opMul, opMod, opFdiv, opPow, opCmp, opEq, opNe, opInB, opIsB, opIx, opSl, mAppend, mInsert, mExtend, keeps, toArgs, toArg, Val.rd, Val.kp, brw, slv, isNon, noFn, endW, wipeE, List.getElem?_cons_zero, List.getElem?_cons_succ, List.map_cons, List.map_nil, List.cons_append, List.nil_append, List.set_cons_zero, List.set_cons_succ, List.length_cons, List.length_nil, Bool.false_xor, Bool.true_xor, wEnum, wZip, bSorted, bStr, wFmt, wJoined, wJcons, wJnil, wLR1, wTR3, wPm, pIndex, reads, tyD, opRepT, wLc2, wUnp, wUcons, wThaw, wThawT, wRev, wRaise2, wRaised, opCmpD, bBest, wSortedKeys, wIntE, wDNew, wpRoot, wpSub, opIxT, opInT, bLenT, kidK, kidV, isKey, wAsgG, gB, gNl, gCn, gTp, gSb, setAt, wPAug, intAt, slotT, asT, ofT, Φ__law_take]
  refine ⟨trivial, _, rfl, ?_, by omega, fun v h0 h1 => ?_⟩
  · have := List.length_pos_iff.mpr hne
    omega
  · have hv : v.toNat < xs.length := by omega
    have e : atI xs v = some xs[v.toNat] := by
      unfold atI ixN
      rw [if_pos h0, if_pos h1]
      simp [hv]
    simp only [e]
    exact hR _ (List.getElem_mem hv)
theorem v__law_mixed : V__law_mixed := by
  intro ys R Ex hl ha h
  obtain ⟨xs, rfl, hlen, hR⟩ := h
  refine ⟨Nat.zero_le _, ?_⟩
  show forW _ _ _ xs _
  refine forW_inv (fun ds ρ => ∃ zs o, ρ = [some .bag, some (.d (.list xs)), some (.own zs), o] ∧ (zs ++ ds).Perm xs) (fun d ds ρ K ⟨zs, o, e, hp⟩ hK => ?_) (fun ρ ⟨zs, o, e, hp⟩ => ?_) _ _ ⟨[], _, rfl, .refl _⟩
  · subst e
    rw [List.append_nil] at hp
    exact hR zs hp
  · subst e
    have hz := hp.length_eq
    rw [List.length_append, List.length_cons] at hz
    refine ⟨rfl, _, rfl, by show (0 : Int) < (zs.length : Int) + 1; omega, by show (zs.length : Int) + 1 < _; omega, fun v v0 v1 => ?_⟩
    have v1 : v < (zs.length : Int) + 1 := v1
    refine ⟨⟨by rw [sizeLine_eq]; omega, v0, by omega⟩, ?_⟩
    exact hK _ ⟨_, _, rfl, (insert_perm zs ds d v.toNat).trans hp⟩
theorem v__law_alike : V__law_alike := by
  intro ys R Ex hl ha h
  obtain ⟨a, rfl, ⟨n, k, hn, hk, s⟩, hR⟩ := h
  show w__law_alike (endW R Ex) [some (.d a), some (.d a)]
  simp only [w__law_alike, wSeq, wIfS, wSkip, wRet, wRetN, wRetL, wRaise0, wSetD, wSet, wAug, wAsg, wMt, wFor, wDo, wFrz, wBagSet, wBagAdd, wBagCell, wBag, wVar, wC, wOp, wNeg, wTv, wTnot, wTand, wTor, wAnd, wOr, wNot, wIf, wChain, wIsN, wIsi, wNil, wCons, wStar, wTup, wLst, wCB, wCall, wCallV, wCallL, wFnA, wHeard, wSl, wSo, wNo, wRng1, wRng2, wRng3, wIt, wItL, wItS, wLc, wYes, wSortedSet, bName, bTup, bCons, bNil, op1, op2i, bLen, bAbs, bMax2, bMin2, bInt, bTuple, bList, bAll, bAny, bSum, bRepr, opAdd, opSub, opMul, opMod, opFdiv, opPow, opCmp, opEq, opNe, opInB, opIsB, opIx, opSl, mAppend, mInsert, mExtend, keeps, toArgs, toArg, Val.rd, Val.kp, brw, slv, isNon, noFn, endW, wipeE, List.getElem?_cons_zero, List.getElem?_cons_succ, List.map_cons, List.map_nil, List.cons_append, List.nil_append, List.set_cons_zero, List.set_cons_succ, List.length_cons, List.length_nil, Bool.false_xor, Bool.true_xor, wEnum, wZip, bSorted, bStr, wFmt, wJoined, wJcons, wJnil, wLR1, wTR3, wPm, pIndex, reads, tyD, opRepT, wLc2, wUnp, wUcons, wThaw, wThawT, wRev, wRaise2, wRaised, opCmpD, bBest, wSortedKeys, wIntE, wDNew, wpRoot, wpSub, opIxT, opInT, bLenT, kidK, kidV, isKey, wAsgG, gB, gNl, gCn, gTp, gSb, setAt, wPAug, intAt, slotT, asT, ofT]
  have h3 : a.depth ≤ 100 := by have := s.dp; omega
  refine ⟨s.sh, s.shown hn, h3, s.sh, s.shown hn, h3, ?_, ?_⟩
  · simp [PyData.depth]
  · simp only [PyData.eqv]
    simp [s.eqv]
    exact ⟨h3, hR⟩
theorem v__law_is_int : V__law_is_int := by
  intro ys R Ex hl ha h
  obtain ⟨x, rfl, h⟩ := h
  show w__law_is_int (endW R Ex) [some (.d x)]
  simp only [w__law_is_int, wSeq, wIfS, wSkip, wRet, wRetN, wRetL, wRaise0, wSetD, wSet, wAug, wAsg, wMt, wFor, wDo, wFrz, wBagSet, wBagAdd, wBagCell, wBag, wVar, wC, wOp, wNeg, wTv, wTnot, wTand, wTor, wAnd, wOr, wNot, wIf, wChain, wIsN, wIsi, wNil, wCons, wStar, wTup, wLst, wCB, wCall, wCallV, wCallL, wFnA, wHeard, wSl, wSo, wNo, wRng1, wRng2, wRng3, wIt, wItL, wItS, wLc, wYes, wSortedSet, bName, bTup, bCons, bNil, op1, op2i, bLen, bAbs, bMax2, bMin2, bInt, bTuple, bList, bAll, bAny, bSum, bRepr, opAdd, opSub, opMul, opMod, opFdiv, opPow, opCmp, opEq, opNe, opInB, opIsB, opIx, opSl, mAppend, mInsert, mExtend, keeps, toArgs, toArg, Val.rd, Val.kp, brw, slv, isNon, noFn, endW, wipeE, List.getElem?_cons_zero, List.getElem?_cons_succ, List.map_cons, List.map_nil, List.cons_append, List.nil_append, List.set_cons_zero, List.set_cons_succ, List.length_cons, List.length_nil, Bool.false_xor, Bool.true_xor, wEnum, wZip, bSorted, bStr, wFmt, wJoined, wJcons, wJnil, wLR1, wTR3, wPm, pIndex, reads, tyD, opRepT, wLc2, wUnp, wUcons, wThaw, wThawT, wRev, wRaise2, wRaised, opCmpD, bBest, wSortedKeys, wIntE, wDNew, wpRoot, wpSub, opIxT, opInT, bLenT, kidK, kidV, isKey, wAsgG, gB, gNl, gCn, gTp, gSb, setAt, wPAug, intAt, slotT, asT, ofT]
  unfold isNum at h
  cases e : isIntD x <;> simp_all
set_option maxHeartbeats 4000000 in
theorem harp_end {R : Val → Prop} {Ex : Xn → Prop} {m s sz k : Int} {ns : List Str} {bs : List Int} (o8 o9 : Option Val) (hs : sz = 5 ∨ sz = 7 ∨ sz = 12) (hk0 : 2 ≤ k) (hkm : k ≤ m) (hm : m ≤ 5) (s0 : 1 ≤ s) (s1 : s ≤ 100) (hn : ns.length = k.toNat) (hb : bs.length = k.toNat)
    (hnd : ns.Nodup) (hnm : ∀ x ∈ ns, x ∈ nameS) (asc : bs.Pairwise (· < ·)) (rg : ∀ b ∈ bs, 0 ≤ b ∧ b < sz) (hR : ∀ h : Hrp, h.Drawn m s → R (.d h.d)) :
    w__law_harp_1 (endW R Ex) [some .bag, some (.d (.int m)), some (.d (.int s)), some (.d (.int sz)), some (.d (.int k)), some (.d (.list (ns.map .str))), some (.d (.list (bs.map .int))), none, o8, o9] := by
  show lcW _ _ _ _ _ (zipD (ns.map .str) (bs.map .int)) []
  refine lcW_inv (fun ds acc => ∃ (rows : List (Str × Int × Int)) (ns' : List Str) (bs' : List Int), ds = zipD (ns'.map .str) (bs'.map .int) ∧ acc = rows.map rowD ∧ rows.map (·.1) ++ ns' = ns ∧ rows.map (fun r => r.2.1) ++ bs' = bs ∧ ns'.length = bs'.length ∧ ∀ r ∈ rows, 0 ≤ r.2.2 ∧ r.2.2 ≤ 1) (fun d ds acc K ⟨rows, ns', bs', e, ea, e1, e2, hl, hf⟩ hK => ?_) (fun acc ⟨rows, ns', bs', e, ea, e1, e2, hl, hf⟩ => ?_) _ _ ⟨[], ns, bs, rfl, rfl, rfl, rfl, by omega, by simp⟩
  · subst ea
    cases ns' with
    | nil => cases e
    | cons n ns' =>
      cases bs' with
      | nil => cases hl
      | cons b bs' =>
        cases e
        refine ⟨rfl, ?_⟩
        refine ⟨rfl, 2, rfl, by decide, by decide, fun v v0 v1 => ?_⟩
        refine ⟨by rw [sizeLine_eq]; show 3 ≤ _; omega, ?_⟩
        refine hK _ ⟨rows ++ [(n, b, v)], ns', bs', rfl, by simp [rowD], by simp [← e1], by simp [← e2], by simpa using hl, fun r hr => ?_⟩
        rcases List.mem_append.mp hr with hr | hr
        · exact hf r hr
        · rw [List.mem_singleton.mp hr]
          exact ⟨v0, by show v ≤ 1; omega⟩
  · subst ea
    have en : ns' = [] := by
      cases ns' with
      | nil => rfl
      | cons n ns' =>
        cases bs' with
        | nil => cases hl
        | cons b bs' => cases e
    subst en
    have eb : bs' = [] := List.length_eq_zero_iff.mp hl.symm
    subst eb
    rw [List.append_nil] at e1 e2
    have rl : rows.length = k.toNat := by rw [← hn, ← e1, List.length_map]
    refine ⟨rfl, s, rfl, by omega, by omega, fun v v0 v1 => ?_⟩
    refine ⟨rfl, 3, rfl, by decide, by decide, fun u u0 u1 => ?_⟩
    refine ⟨rfl, 9, rfl, by decide, by decide, fun t t0 t1 => ?_⟩
    refine ⟨by rw [sizeLine_eq]; show 5 ≤ _; omega, ?_⟩
    refine hR ⟨sz, rows, 1 + v, 1 + u, t⟩ ⟨⟨by show 1 ≤ sz; omega, by show sz ≤ 1000; omega, by show 2 ≤ rows.length; omega, by show rows.length ≤ 12; omega, by show 1 ≤ 1 + v; omega, by show 1 + v ≤ 100; omega, fun r hr => ?_, hf, fun r hr => ?_⟩, by show sz ≤ 12; omega, by show (rows.length : Int) ≤ m; omega, by show 1 + v ≤ s; omega, ?_, fun r hr => ?_, by show (rows.map (·.1)).Nodup; rw [e1]; exact hnd, fun r hr => hnm _ (by rw [← e1]; exact List.mem_map_of_mem hr), by show 1 ≤ 1 + u; omega, by show 1 + u ≤ 3; omega, t0, by show t ≤ 8; omega⟩
    · have := rg r.2.1 (by rw [← e2]; exact List.mem_map_of_mem hr)
      omega
    · exact nameS_ok _ (hnm _ (by rw [← e1]; exact List.mem_map_of_mem hr))
    · show (rows.map fun r => r.2.1).Pairwise (· < ·)
      rw [e2]
      exact asc
    · exact (rg r.2.1 (by rw [← e2]; exact List.mem_map_of_mem hr)).2
theorem v__law_harp : V__law_harp := by
  intro ys R Ex hl ha h
  obtain ⟨m, s, rfl, m0, m1, s0, s1, hR⟩ := h
  refine ⟨by rw [sizeLine_eq]; show 3 ≤ _; omega, ?_⟩
  refine ⟨rfl, _, rfl, by simp, by show 3 < 1073741824; decide, fun x hx => ?_⟩
  obtain ⟨sz, rfl, hs⟩ : ∃ sz : Int, x = .int sz ∧ (sz = 5 ∨ sz = 7 ∨ sz = 12) := by
    simp only [List.mem_cons, List.not_mem_nil, or_false] at hx
    rcases hx with rfl | rfl | rfl
    · exact ⟨5, rfl, .inl rfl⟩
    · exact ⟨7, rfl, .inr (.inl rfl)⟩
    · exact ⟨12, rfl, .inr (.inr rfl)⟩
  refine ⟨rfl, m - 1, rfl, by omega, by omega, fun v v0 v1 => ?_⟩
  refine ⟨by rw [sizeLine_eq]; show 9 ≤ _; omega, ?_⟩
  refine ⟨rfl, nameS.map .str, rfl, by decide, fun zs hz => ?_⟩
  obtain ⟨ns, hp, rfl⟩ := perm_map hz nameS rfl
  have nl : ns.length = 9 := hp.length_eq
  have e1 : cutG (ns.map PyData.str) none (some (2 + v)) = (ns.take (2 + v).toNat).map .str := by
    rw [cut_to _ (by omega) (by rw [List.length_map, nl]; omega), List.map_take]
  show w__law_harp_2 (endW R Ex) [some .bag, some (.d (.int m)), some (.d (.int s)), some (.d (.int sz)), some (.d (.int (2 + v))), some (.d (.list (cutG (ns.map PyData.str) none (some (2 + v))))), none, none, none, none]
  rw [e1]
  refine ⟨?_, ?_⟩
  · exact RgOk.of_le (by omega) (by omega) (by omega) (by omega)
  refine ⟨rfl, countD 0 sz.toNat, rfl, by simp [countD]; omega, fun ws hw => ?_⟩
  rw [count_upto] at hw
  obtain ⟨bs, hq, rfl⟩ := perm_map hw (upto sz) rfl
  have bl : bs.length = sz.toNat := by rw [hq.length_eq, upto_len]
  have e2 : cutG (bs.map PyData.int) none (some (2 + v)) = (bs.take (2 + v).toNat).map .int := by
    rw [cut_to _ (by omega) (by rw [List.length_map, bl]; omega), List.map_take]
  show (PySem.W.AllAlike (cutG (bs.map PyData.int) none (some (2 + v))) ∧ PySem.W.Sortable (cutG (bs.map PyData.int) none (some (2 + v))) ∧ ∀ d ∈ cutG (bs.map PyData.int) none (some (2 + v)), d.depth ≤ 100) ∧ w__law_harp_1 (endW R Ex) [some .bag, some (.d (.int m)), some (.d (.int s)), some (.d (.int sz)), some (.d (.int (2 + v))), some (.d (.list ((ns.take (2 + v).toNat).map PyData.str))), some (.d (.list (srt (cutG (bs.map PyData.int) none (some (2 + v)))))), none, none, none]
  rw [e2]
  refine ⟨alike_ints _, ?_⟩
  rw [srt_ints]
  have nd : bs.Nodup := hq.nodup_iff.mpr (upto_nodup sz)
  refine harp_end none none hs (by omega) (by omega) m1 s0 s1 (by rw [List.length_take, nl]; omega) (by rw [List.length_mergeSort, List.length_take, bl]; omega) ((hp.nodup_iff.mpr (by decide +kernel)).sublist (List.take_sublist _ _)) (fun x hx => hp.mem_iff.mp (List.mem_of_mem_take hx)) (asc_ints (nd.sublist (List.take_sublist _ _))) (fun b hb => ?_) hR
  have := hq.mem_iff.mp (List.mem_of_mem_take ((List.mergeSort_perm _ _).mem_iff.mp hb))
  exact mem_count this
end Pd

namespace Pd
open PySem PySem.Spec PyProof.Rows L2
theorem Or1.imp {o : Option Xn} {P Q : Prop} {Ex : Xn → Prop} (h : Or1 o P Ex) (f : P → Q) : Or1 o Q Ex := by
  cases o with
  | none => exact f h
  | some e => exact h
theorem Or1.or {a b : Option Xn} {P : Prop} {Ex : Xn → Prop} (h : Or1 (a.or b) P Ex) : Or1 a (Or1 b P Ex) Ex := by
  cases a with
  | none => exact h
  | some e => exact h
theorem bools_map {α : Type} (g : α → Bool) (l : List α) : boolsOf (l.map fun a => PyData.bool (g a)) = some (l.map g) := by
  induction l with
  | nil => rfl
  | cons a r ih => simp [boolsOf, ih]
theorem all_of {xs : List D} {bs : List Bool} {P : Val → Prop} (e : boolsOf xs = some bs) (h : P (.d (.bool (bs.all id)))) : bAll [.own xs] P := by
  show (match boolsOf xs with
    | some bs => P (.d (.bool (bs.all id)))
    | none => False)
  rw [e]
  exact h
theorem v_is_name : V_is_name := by
  intro ys R Ex hl ha h
  obtain ⟨x, rfl, hs, hR⟩ := h
  cases x with
  | str s =>
    have hR : R (.d (.bool (isNameS s))) := hR
    have hz := szl (hs s rfl)
    unfold w_is_name
    simp only [wSeq, wIfS, wTor, wTnot]
    show wTv (wChain opLe opLe (wC (.int 2)) (wCB bLen (wCons (wVar 0) wNil)) (wC (.int 8))) [some (.d (.str s)), none] _ _
    refine tv_chain_le (a := 2) (b := (s.length : Int)) (c := 8) (fun Q E q => q) (fun Q E q => ⟨hz, q⟩) (fun Q E q => q) ?_
    unfold isNameS at hR
    rw [← Bool.and_assoc] at hR
    cases h1 : decide ((2 : Int) ≤ (s.length : Int)) && decide ((s.length : Int) ≤ 8) with
    | false =>
      rw [h1] at hR
      exact hR
    | true =>
    rw [h1] at hR
    rw [if_neg (by decide)]
    refine ⟨Nat.le_trans (Nat.min_le_right _ _) (Nat.zero_le 100), ?_⟩
    show (if (false ^^ resv.any fun y => PyData.eqv y (.str s)) = true then _ else _)
    cases h3 : resv.any fun y => PyData.eqv y (.str s) with
    | true =>
      rw [h3] at hR
      exact hR
    | false =>
      rw [h3] at hR
      rw [if_neg (by decide)]
      refine ⟨hz, ?_⟩
      refine lcW_map (fun d => .bool (sgOk d)) (fun d m K hK => ?_) ?_
      · obtain ⟨c, _, rfl⟩ := List.mem_map.mp m
        show K (.bool (false ^^ sgOk (.str ⟨#[c]⟩)))
        rw [Bool.false_xor]
        exact hK
      · refine all_of (bools_map sgOk (signsD s)) ?_
        rw [List.all_map]
        exact hR
  | _ => exact hR
theorem v__law_is_name : V__law_is_name := by
  intro ys R Ex hl ha h
  obtain ⟨x, rfl, hs, hR⟩ := h
  cases x with
  | str s =>
    have hR : R (.d (.bool (isNameS s))) := hR
    have hz := szl (hs s rfl)
    unfold w__law_is_name
    simp only [wSeq, wIfS, wTor, wTnot]
    show wTv (wChain opLe opLe (wC (.int 2)) (wCB bLen (wCons (wVar 0) wNil)) (wC (.int 8))) [some (.d (.str s)), none] _ _
    refine tv_chain_le (a := 2) (b := (s.length : Int)) (c := 8) (fun Q E q => q) (fun Q E q => ⟨hz, q⟩) (fun Q E q => q) ?_
    unfold isNameS at hR
    rw [← Bool.and_assoc] at hR
    cases h1 : decide ((2 : Int) ≤ (s.length : Int)) && decide ((s.length : Int) ≤ 8) with
    | false =>
      rw [h1] at hR
      exact hR
    | true =>
    rw [h1] at hR
    rw [if_neg (by decide)]
    refine ⟨szr, Nat.le_trans (Nat.min_le_right _ _) (Nat.zero_le 100), ?_⟩
    show (if (false ^^ resv.any fun y => PyData.eqv y (.str s)) = true then _ else _)
    cases h3 : resv.any fun y => PyData.eqv y (.str s) with
    | true =>
      rw [h3] at hR
      exact hR
    | false =>
      rw [h3] at hR
      rw [if_neg (by decide)]
      refine ⟨hz, ?_⟩
      have e : signsD s = (signsD s).map id := by simp
      rw [e]
      refine lcW_fm id id (fun d => !sgOk d) (fun d m K acc hK => ?_) ?_
      · obtain ⟨c, _, rfl⟩ := List.mem_map.mp m
        show (if (true ^^ sgOk (.str ⟨#[c]⟩)) = true then _ else _)
        cases hc : sgOk (.str ⟨#[c]⟩) with
        | true => rw [if_neg (by decide)]; rw [if_neg (by show ¬ (!sgOk (.str ⟨#[c]⟩)) = true; rw [hc]; decide)] at hK; exact hK
        | false => rw [if_pos (by decide)]; rw [if_pos (by show (!sgOk (.str ⟨#[c]⟩)) = true; rw [hc]; decide)] at hK; exact hK
      · refine ⟨szr, Nat.le_trans (Nat.min_le_right _ _) (by decide), ?_⟩
        show R (.d (.bool (PyData.eqv (.list ([] ++ ((signsD s).filter fun d => !sgOk d).map id)) (.list []))))
        rw [eqv_list_nil, List.nil_append, List.map_id]
        have e2 : ((signsD s).filter fun d => !sgOk d).isEmpty = (signsD s).all sgOk := by
          rw [Bool.eq_iff_iff, List.isEmpty_iff, List.filter_eq_nil_iff, List.all_eq_true]
          simp
        rw [e2]
        exact hR
  | _ => exact hR
theorem v_check_number : V_check_number := by
  intro ys R Ex hl ha h
  obtain ⟨w, v, lo, hi, rfl, h⟩ := h
  show (if decide (v < lo) = true then _ else _)
  unfold numF at h
  by_cases h1 : v < lo
  · rw [if_pos h1] at h
    rw [if_pos (by simpa using h1)]
    exact h
  · rw [if_neg h1] at h
    rw [if_neg (by simpa using h1)]
    show (if decide (v > hi) = true then _ else _)
    by_cases h2 : hi < v
    · rw [if_pos h2] at h
      rw [if_pos (by simpa using h2)]
      exact h
    · rw [if_neg h2] at h
      rw [if_neg (by simpa using h2)]
      exact h
theorem v__law_bound : V__law_bound := by
  intro ys R Ex hl ha h
  obtain ⟨w, v, lo, hi, rfl, h⟩ := h
  show (if decide (v < lo) = true then _ else _)
  unfold numF at h
  by_cases h1 : v < lo
  · rw [if_pos h1] at h
    rw [if_pos (by simpa using h1)]
    exact ⟨szr, h⟩
  · rw [if_neg h1] at h
    rw [if_neg (by simpa using h1)]
    show (if decide (v > hi) = true then _ else _)
    by_cases h2 : hi < v
    · rw [if_pos h2] at h
      rw [if_pos (by simpa using h2)]
      exact ⟨szr, h⟩
    · rw [if_neg h2] at h
      rw [if_neg (by simpa using h2)]
      exact h
theorem v_is_letter : V_is_letter := by
  intro ys R Ex hl ha h
  obtain ⟨x, rfl, hs, hR⟩ := h
  refine ⟨rfl, x, 3, rfl, ?_⟩
  cases e : isSized 3 x with
  | false =>
    have e2 : isLetD x = false := by
      unfold isLetD
      split
      · exact absurd e (by simp [isSized])
      · rfl
    rw [e2] at hR
    exact hR
  | true =>
    obtain ⟨ds, rfl, hl⟩ := sized_of (n := 3) e
    obtain ⟨a, b, c, rfl⟩ : ∃ a b c, ds = [a, b, c] := by
      match ds, hl with
      | [a, b, c], _ => exact ⟨a, b, c, rfl⟩
    refine ⟨rfl, a, rfl, hs a b c rfl, ?_⟩
    have hR' : R (.d (.bool (isNameD a && (isIndex b && isIndex c)))) := hR
    cases e1 : isNameD a with
    | false => rw [e1] at hR'; exact hR'
    | true =>
      refine ⟨rfl, b, rfl, ?_⟩
      cases e2 : isIndex b with
      | false => rw [e1, e2] at hR'; exact hR'
      | true =>
        refine ⟨rfl, c, rfl, ?_⟩
        rw [e1, e2] at hR'
        exact hR'
theorem harpF_tup {ds : List D} (h : ds.length ≠ 5) : isHarpF (.tuple ds) = false := by
  unfold isHarpF
  split
  · rename_i e; cases e; exact absurd rfl h
  · rfl
theorem harpF_b (a b c d e : D) (h : isTupleD b = false) : isHarpF (.tuple [a, b, c, d, e]) = false := by
  cases b with
  | tuple ds => cases h
  | _ => rfl
theorem v_is_harp_form : V_is_harp_form := by
  intro ys R Ex hl ha h
  obtain ⟨x, rfl, hs, hR⟩ := h
  refine ⟨rfl, x, 5, rfl, ?_⟩
  cases e : isSized 5 x with
  | false =>
    have e2 : isHarpF x = false := by
      unfold isHarpF
      split
      · exact absurd e (by simp [isSized])
      · rfl
    rw [e2] at hR
    exact hR
  | true =>
    obtain ⟨ds, rfl, hl⟩ := sized_of (n := 5) e
    obtain ⟨a, b, c, d, f, rfl⟩ : ∃ a b c d f, ds = [a, b, c, d, f] := by
      match ds, hl with
      | [a, b, c, d, f], _ => exact ⟨a, b, c, d, f, rfl⟩
    intro fa
    refine ⟨rfl, b, fa, _, rfl, ?_⟩
    cases hb : isTupleD b with
    | false =>
      rw [harpF_b _ _ _ _ _ hb] at hR
      exact .inr ⟨rfl, hR⟩
    | true =>
      cases b with
      | tuple rows =>
        obtain ⟨_, hsr⟩ := hs _ _ _ _ _ rfl
        refine .inl ⟨rows, isLetD, rfl, fun r m Q hQ => ⟨hsr r m, hQ⟩, ?_⟩
        have hR' : R (.d (.bool (rows.all isLetD && (isIndex a && (isIndex c && (isIndex d && isIndex f)))))) := hR
        cases e1 : rows.all isLetD with
        | false => rw [e1] at hR'; exact hR'
        | true =>
          rw [e1] at hR'
          refine ⟨szr, ?_⟩
          refine lcW_mapf (xs := [(0, a), (2, c), (3, d), (4, f)]) (fun p : Int × D => .int p.1) (fun p => .bool (isIndex p.2)) (fun p m K hK => ?_) ?_
          · simp only [List.mem_cons, List.not_mem_nil, or_false] at m
            rcases m with rfl | rfl | rfl | rfl <;> exact ⟨rfl, _, rfl, hK⟩
          · refine all_of (bools_map (fun p : Int × D => isIndex p.2) [(0, a), (2, c), (3, d), (4, f)]) ?_
            have e : ([(0, a), (2, c), (3, d), (4, f)].map fun p : Int × D => isIndex p.2).all id = (true && (isIndex a && (isIndex c && (isIndex d && isIndex f)))) := by simp
            rw [e]
            exact hR'
      | _ => cases hb
end Pd

namespace Pd
open PySem PySem.Spec PyProof.Rows L2
/-! ### a dict as a set of marks -/
def markD (ks : List D) : List (D × Tr) := ks.map fun k => (k, .d (.bool true))
theorem dget_mark (ks : List D) (k : D) : (dget (markD ks) k).isSome = ks.any fun x => PyData.eqv x k := by
  unfold dget markD
  rw [Option.isSome_map, List.find?_map, Option.isSome_map, Bool.eq_iff_iff, List.find?_isSome, List.any_eq_true]
  rfl
theorem dput_mark {ks : List D} {k : D} (h : (ks.any fun x => PyData.eqv x k) = false) : dput (markD ks) k (.d (.bool true)) = markD (ks ++ [k]) := by
  have e : kIx (markD ks) k = none := by
    unfold kIx markD
    rw [List.findIdx?_map, List.findIdx?_eq_none_iff]
    intro x m
    have := List.any_eq_false.mp h x m
    simpa using this
  unfold dput
  rw [e]
  show markD ks ++ [_] = _
  unfold markD
  rw [List.map_append]
  rfl
theorem strs_any (l : List Str) (s : Str) : ((l.map PyData.str).any fun y => PyData.eqv y (.str s)) = decide (s ∈ l) := by
  rw [Bool.eq_iff_iff, List.any_map, List.any_eq_true, decide_eq_true_eq]
  simp only [Function.comp, eqv_strs, beq_iff_eq]
  exact ⟨fun ⟨x, m, e⟩ => e ▸ m, fun m => ⟨s, m, rfl⟩⟩
/-! ### harps by form -/
theorem isLetD_of {x : D} (h : isLetD x = true) : ∃ r : Str × Int × Int, x = rowD r ∧ isNameS r.1 = true ∧ 0 ≤ r.2.1 ∧ 0 ≤ r.2.2 := by
  unfold isLetD at h
  split at h
  · rename_i a b c
    simp only [Bool.and_eq_true] at h
    obtain ⟨i, rfl, hi⟩ := isIndex_of h.2.1
    obtain ⟨j, rfl, hj⟩ := isIndex_of h.2.2
    cases a with
    | str s => exact ⟨(s, i, j), rfl, h.1, hi, hj⟩
    | _ => cases h.1
  · cases h
theorem lets_of : ∀ {xs : List D}, xs.all isLetD = true → ∃ rs : List (Str × Int × Int), xs = rs.map rowD ∧ ∀ r ∈ rs, isNameS r.1 = true ∧ 0 ≤ r.2.1 ∧ 0 ≤ r.2.2
  | [], _ => ⟨[], rfl, by simp⟩
  | x :: xs, h => by
    simp only [List.all_cons, Bool.and_eq_true] at h
    obtain ⟨r, rfl, hr⟩ := isLetD_of h.1
    obtain ⟨rs, rfl, hs⟩ := lets_of h.2
    exact ⟨r :: rs, rfl, fun m hm => by
      rcases List.mem_cons.mp hm with rfl | hm
      · exact hr
      · exact hs m hm⟩
structure FormH (h : Hrp) : Prop where
  sz : 0 ≤ h.sz
  n : 0 ≤ h.n
  a : 0 ≤ h.a
  b : 0 ≤ h.b
  row : ∀ r ∈ h.rows, isNameS r.1 = true ∧ 0 ≤ r.2.1 ∧ 0 ≤ r.2.2
theorem harpF_of {x : D} (h : isHarpF x = true) : ∃ H : Hrp, x = H.d ∧ FormH H := by
  unfold isHarpF at h
  split at h
  · rename_i a rows b c d
    simp only [Bool.and_eq_true] at h
    obtain ⟨i, rfl, hi⟩ := isIndex_of h.2.1
    obtain ⟨j, rfl, hj⟩ := isIndex_of h.2.2.1
    obtain ⟨k, rfl, hk⟩ := isIndex_of h.2.2.2.1
    obtain ⟨l, rfl, hl⟩ := isIndex_of h.2.2.2.2
    obtain ⟨rs, rfl, hs⟩ := lets_of h.1
    exact ⟨⟨i, rs, j, k, l⟩, rfl, hi, hj, hk, hl, hs⟩
  · cases h
theorem unH_d (H : Hrp) : unH H.d = H := by
  show Hrp.mk H.sz ((H.rows.map rowD).map unRow) H.n H.a H.b = H
  rw [List.map_map]
  have e : (H.rows.map (unRow ∘ rowD)) = H.rows := (List.map_congr_left fun r _ => rfl).trans (List.map_id _)
  rw [e]
theorem hFault_d {H : Hrp} (h : isHarpF H.d = true) : hFault H.d = harpF' H := by
  unfold hFault
  rw [if_pos h, unH_d]
def countI (a : Int) (n : Nat) : List Int := (List.range n).map fun i => a + (i : Nat)
theorem countI_succ (a : Int) (n : Nat) : countI a (n + 1) = a :: countI (a + 1) n := by
  unfold countI
  rw [List.range_succ_eq_map, List.map_cons, List.map_map]
  refine congr (congrArg _ (by simp)) (List.map_congr_left fun i _ => ?_)
  show a + ((i + 1 : Nat) : Int) = a + 1 + i
  omega
theorem upto_count (n : Int) : upto n = countI 0 n.toNat := by
  unfold upto countI
  exact List.map_congr_left fun i _ => by simp
def lastB (pre : List (Str × Int × Int)) : Int := match pre.getLast? with
  | none => -1
  | some r => r.2.1
theorem letter_end {E : En} {H : Hrp} {ks : List D} {l b f : Int} {n : Str} (hk : (ks.any fun x => PyData.eqv x (.str n)) = false) (hlen : ks.length ≤ 500)
    (hx : 1 < f → E.ex (bh n "foot") [some (.d H.d), some (.tr .own (.dc .k false (markD ks))), some (.d (.int l)), some (.d (.str n)), some (.d (.int b)), some (.d (.int f))])
    (hn : ¬ 1 < f → E.nx [some (.d H.d), some (.tr .own (.dc .k false (markD (ks ++ [.str n])))), some (.d (.int b)), some (.d (.str n)), some (.d (.int b)), some (.d (.int f))]) :
    w_check_letters_1 E [some (.d H.d), some (.tr .own (.dc .k false (markD ks))), some (.d (.int l)), some (.d (.str n)), some (.d (.int b)), some (.d (.int f))] := by
  show (if decide (f > 1) = true then _ else _)
  by_cases h4 : 1 < f
  · rw [if_pos (by simpa using h4)]
    exact hx h4
  rw [if_neg (by simpa using h4)]
  refine ⟨szr, rfl, rfl, ?_, ?_⟩
  · unfold markD
    rw [List.length_map]
    exact szl1 (by omega)
  · rw [dput_mark hk]
    exact ⟨rfl, hn h4⟩
theorem letter_mid {E : En} {H : Hrp} {ks : List D} {l b f : Int} {n : Str} (hk : (ks.any fun x => PyData.eqv x (.str n)) = false) (hlen : ks.length ≤ 500)
    (hb : (b ≤ l ∨ H.sz ≤ b) → E.ex (bh n "base") [some (.d H.d), some (.tr .own (.dc .k false (markD ks))), some (.d (.int l)), some (.d (.str n)), some (.d (.int b)), some (.d (.int f))])
    (hx : ¬ (b ≤ l ∨ H.sz ≤ b) → 1 < f → E.ex (bh n "foot") [some (.d H.d), some (.tr .own (.dc .k false (markD ks))), some (.d (.int l)), some (.d (.str n)), some (.d (.int b)), some (.d (.int f))])
    (hn : ¬ (b ≤ l ∨ H.sz ≤ b) → ¬ 1 < f → E.nx [some (.d H.d), some (.tr .own (.dc .k false (markD (ks ++ [.str n])))), some (.d (.int b)), some (.d (.str n)), some (.d (.int b)), some (.d (.int f))]) :
    w_check_letters_2 E [some (.d H.d), some (.tr .own (.dc .k false (markD ks))), some (.d (.int l)), some (.d (.str n)), some (.d (.int b)), some (.d (.int f))] := by
  show (if decide (b ≤ l) = true then _ else _)
  by_cases h2 : b ≤ l
  · rw [if_pos (by simpa using h2)]
    exact hb (.inl h2)
  rw [if_neg (by simpa using h2)]
  show (if decide (b ≥ H.sz) = true then _ else _)
  by_cases h3 : H.sz ≤ b
  · rw [if_pos (by simpa using h3)]
    exact hb (.inr h3)
  rw [if_neg (by simpa using h3)]
  have no : ¬ (b ≤ l ∨ H.sz ≤ b) := by simp [h2, h3]
  exact letter_end hk hlen (hx no) (hn no)
theorem letters_loop {H : Hrp} {R : Val → Prop} {Ex : Xn → Prop} (pos : ∀ r ∈ H.rows, 0 ≤ r.2.1) (hlen : H.rows.length ≤ 500) (l : List (Str × Int × Int)) : ∀ (pre : List (Str × Int × Int)), H.rows = pre ++ l → Or1 ((countI pre.length l.length).findSome? (rowF H)) (R (.d .none)) Ex → ∀ o3 o4 o5,
    forW (bTup (bCons (bName 3) (bCons (bName 4) (bCons (bName 5) bNil)))) (wSeq (wIfS (wTv (wOp (opInT false) (wVar 3) (wVar 1))) (wRaise2 "BadHarp" "where" "fault" (wCons (wVar 3) (wCons (wC (.str "twice")) wNil))) wSkip) w_check_letters_2) (endW R Ex) (l.map rowD) [some (.d H.d), some (.tr .own (.dc .k false (markD ((pre.map (·.1)).map .str)))), some (.d (.int (lastB pre))), o3, o4, o5] := by
  induction l with
  | nil => exact fun pre _ h _ _ _ => h
  | cons r l ih =>
    intro pre e h o3 o4 o5
    have er : H.row pre.length = r := by
      unfold Hrp.row
      rw [e, List.getD_eq_getElem?_getD, show ((pre.length : Int)).toNat = pre.length by omega, List.getElem?_append_right (by omega), Nat.sub_self]
      rfl
    have et : H.rows.take (pre.length : Int).toNat = pre := by
      rw [e, show ((pre.length : Int)).toNat = pre.length by omega, List.take_append_of_le_length (Nat.le_refl _), List.take_length]
    rw [List.length_cons, countI_succ, List.findSome?_cons] at h
    have rp : 0 ≤ r.2.1 := pos r (by rw [e]; simp)
    have eb : ((0 < (pre.length : Int) ∧ r.2.1 ≤ (H.row ((pre.length : Int) - 1)).2.1) ∨ H.sz ≤ r.2.1) ↔ (r.2.1 ≤ lastB pre ∨ H.sz ≤ r.2.1) := by
      refine or_congr ?_ Iff.rfl
      cases hp : pre.getLast? with
      | none =>
        have : pre = [] := List.getLast?_eq_none_iff.mp hp
        subst this
        unfold lastB
        simp
        omega
      | some q =>
        have hq : pre.length ≠ 0 := fun z => by rw [List.length_eq_zero_iff.mp z] at hp; cases hp
        have e2 : H.row ((pre.length : Int) - 1) = q := by
          unfold Hrp.row
          rw [e, List.getD_eq_getElem?_getD, show ((pre.length : Int) - 1).toNat = pre.length - 1 by omega, List.getElem?_append_left (by omega), ← List.getLast?_eq_getElem?, hp]
          rfl
        rw [e2]
        unfold lastB
        rw [hp]
        constructor
        · exact fun z => z.2
        · exact fun z => ⟨by omega, z⟩
    unfold rowF at h
    rw [er, et] at h
    refine ⟨rfl, rfl, ?_⟩
    show (if (false ^^ (dget (markD ((pre.map (·.1)).map .str)) (.str r.1)).isSome) = true then _ else _)
    rw [dget_mark, strs_any]
    by_cases h1 : r.1 ∈ pre.map (·.1)
    · rw [if_pos h1] at h
      rw [if_pos (by simpa using h1)]
      exact h
    rw [if_neg h1] at h
    rw [if_neg (by simpa using h1)]
    have nw : (((pre.map (·.1)).map PyData.str).any fun x => PyData.eqv x (.str r.1)) = false := by rw [strs_any]; simpa using h1
    refine letter_mid nw ?_ (fun hb => ?_) (fun hb hf => ?_) fun hb hf => ?_
    · rw [List.length_map, List.length_map]
      have : H.rows.length = pre.length + (l.length + 1) := by rw [e]; simp
      omega
    · rw [if_pos (eb.mpr hb)] at h
      exact h
    · rw [if_neg fun z => hb (eb.mp z), if_pos hf] at h
      exact h
    · rw [if_neg fun z => hb (eb.mp z), if_neg hf] at h
      have e3 : (pre.map (·.1)).map PyData.str ++ [.str r.1] = ((pre ++ [r]).map (·.1)).map PyData.str := by simp
      have e4 : (r.2.1 : Int) = lastB (pre ++ [r]) := by unfold lastB; rw [List.getLast?_append]; rfl
      have e5 : (((pre ++ [r]).length : Nat) : Int) = (pre.length : Int) + 1 := by simp
      rw [e3]
      have := ih (pre ++ [r]) (by rw [e]; simp) (by rw [e5]; exact h) (some (.d (.str r.1))) (some (.d (.int r.2.1))) (some (.d (.int r.2.2)))
      rw [← e4] at this
      exact this
theorem v_check_letters : V_check_letters := by
  intro ys R Ex hl ha h
  obtain ⟨H, rfl, pos, hlen, h⟩ := h
  refine ⟨rfl, rfl, rfl, ?_⟩
  refine letters_loop (H := H) pos hlen H.rows [] rfl ?_ none none none
  unfold letF at h
  rw [upto_count] at h
  exact h
theorem v_checked_harp : V_checked_harp := by
  intro ys R Ex hl ha h
  obtain ⟨x, rfl, hs, h⟩ := h
  refine ⟨rfl, x, rfl, hs, ?_⟩
  cases e : isHarpF x with
  | false =>
    unfold hFault at h
    rw [if_neg (by rw [e]; decide)] at h
    exact h
  | true =>
    obtain ⟨H, rfl, f⟩ := harpF_of e
    rw [hFault_d e] at h
    obtain ⟨few, _⟩ := hs _ _ _ _ _ rfl
    rw [List.length_map] at few
    refine ⟨rfl, _, _, _, _, rfl, h.or.imp fun h => ?_⟩
    refine ⟨rfl, "letters", ((H.rows.map rowD).length : Int), 2, 9, rfl, ?_⟩
    rw [List.length_map]
    refine h.or.imp fun h => ?_
    refine ⟨rfl, H, rfl, fun r m => (f.row r m).2.1, few, h.or.imp fun h => ?_⟩
    refine ⟨rfl, _, _, _, _, rfl, h.or.imp fun h => ?_⟩
    refine ⟨rfl, _, _, _, _, rfl, h.or.imp fun h => ?_⟩
    exact ⟨rfl, _, _, _, _, rfl, h⟩
end Pd

namespace Pd
open PySem PySem.Spec PyProof.Rows L2
/-- a loop that adds to what it holds -/
theorem forW_acc {α : Type} {b : WB} {body : WS} {E : En} {f : α → D} (g : α → List D) (c : Nat) (Sh : List D → Ev → Prop) : ∀ {xs : List α} {acc0 : List D} {N : Nat}, (∀ a ∈ xs, (g a).length ≤ c) → acc0.length + c * xs.length ≤ N →
    (∀ a ∈ xs, ∀ acc ρ (K : Ev → Prop), Sh acc ρ → acc.length + c ≤ N → (∀ ρ', Sh (acc ++ g a) ρ' → K ρ') → b ρ (f a) fun ρ' => body { E with nx := K, ct := K, bk := E.nx } ρ') → (∀ ρ, Sh (acc0 ++ xs.flatMap g) ρ → E.nx ρ) → ∀ ρ, Sh acc0 ρ → forW b body E (xs.map f) ρ
  | [], acc0, N, _, _, _, done, ρ, h => done ρ (by simpa using h)
  | a :: xs, acc0, N, hg, hN, step, done, ρ, h => by
    rw [List.length_cons] at hN
    have ga := hg a List.mem_cons_self
    have hm : c * (xs.length + 1) = c * xs.length + c := Nat.mul_succ _ _
    refine step a List.mem_cons_self acc0 ρ _ h (by omega) fun ρ' h' => ?_
    refine forW_acc g c Sh (acc0 := acc0 ++ g a) (N := N) (fun x m => hg x (List.mem_cons_of_mem _ m)) (by rw [List.length_append]; omega) (fun x m => step x (List.mem_cons_of_mem _ m)) (fun ρ h => done ρ ?_) ρ' h'
    rw [List.flatMap_cons, ← List.append_assoc]
    exact h
theorem idx_test {w : WE} {ρ : Ev} {d : D} {P : Bool → Prop} {Ex : Xn → Prop} (hw : ∀ (Q : Val → Prop) (E : Xn → Prop), Q (.d d) → w ρ Q E) (h : P (!isIndex d)) : wTor (wTnot (wTv (wCall 1 Φ__law_is_int (wCons w wNil)))) (wTv (wOp opLt w (wC (.int 0)))) ρ P Ex := by
  refine hw _ _ ⟨rfl, d, rfl, ?_⟩
  show (if (!isNum d) = true then _ else _)
  cases e : isNum d with
  | false =>
    rw [isIndex_no e] at h
    exact h
  | true =>
    obtain ⟨i, rfl⟩ := isNum_of e
    refine hw _ _ ?_
    have e2 : (!isIndex (.int i)) = decide (i < 0) := by
      rw [Bool.eq_iff_iff]
      simp [isIndex]
    rw [e2] at h
    exact h
theorem let_three {ds : List D} (h : ds.length ≠ 3) : isLetD (.tuple ds) = false := by
  unfold isLetD
  split
  · rename_i e; cases e; exact absurd rfl h
  · rfl
theorem v__law_is_form : V__law_is_form := by
  intro ys R Ex hl ha h
  obtain ⟨x, rfl, hs, hR⟩ := h
  show w__law_is_form (endW R Ex) [some (.d x), none, none, none]
  cases x with
  | tuple ds =>
    refine ⟨int_dp _ _, ?_⟩
    show (if (!PyData.eqv (.int (ds.length : Int)) (.int 5)) = true then _ else _)
    rw [eqv_ints]
    by_cases e : ds.length = 5
    · rw [if_neg (by simp; omega)]
      obtain ⟨a, b, c, d, f, rfl⟩ : ∃ a b c d f, ds = [a, b, c, d, f] := by
        match ds, e with
        | [a, b, c, d, f], _ => exact ⟨a, b, c, d, f, rfl⟩
      show (if (!isTupleD b) = true then _ else _)
      cases hb : isTupleD b with
      | false =>
        rw [harpF_b _ _ _ _ _ hb] at hR
        exact hR
      | true =>
        cases b with
        | tuple rows =>
          obtain ⟨_, hsr⟩ := hs _ _ _ _ _ rfl
          have e2 : isHarpF (.tuple [a, .tuple rows, c, d, f]) = ((!rows.any fun r => !isLetD r) && (isIndex a && (isIndex c && (isIndex d && isIndex f)))) := by
            show (rows.all isLetD && _) = _
            congr 1
            rw [Bool.eq_iff_iff]
            simp
          rw [e2] at hR
          rw [if_neg (by decide)]
          show forW _ _ _ rows _
          refine forW_any (p := fun d => !isLetD d) (Rt := R (.d (.bool false))) (fun ρ => ∃ o1 o2 o3, ρ = [some (.d (.tuple [a, .tuple rows, c, d, f])), o1, o2, o3]) (fun r mr ρ K ⟨o1, o2, o3, e3⟩ hf ht => ?_) (fun z => by rw [z] at hR; exact hR) (fun z ρ ⟨o1, o2, o3, e3⟩ => ?_) _ ⟨_, _, _, rfl⟩
          · subst e3
            rw [z] at hR
            refine ⟨szr, ?_⟩
            refine lcW_fm (xs := [(0, a), (2, c), (3, d), (4, f)]) (fun p : Int × D => .int p.1) (fun p => .int p.1) (fun p => !isIndex p.2) (fun p m K acc hk => ?_) ?_
            · refine idx_test (d := p.2) (fun Q E q => ?_) ?_
              · simp only [List.mem_cons, List.not_mem_nil, or_false] at m
                rcases m with rfl | rfl | rfl | rfl <;> exact q
              · show (if (!isIndex p.2) = true then _ else _)
                cases e5 : isIndex p.2 with
                | true => rw [if_neg (by decide)]; rw [if_neg (by rw [e5]; decide)] at hk; exact hk
                | false => rw [if_pos (by decide)]; rw [if_pos (by rw [e5]; rfl)] at hk; exact hk
            · refine ⟨szr, Nat.le_trans (Nat.min_le_right _ _) (by decide), ?_⟩
              show R (.d (.bool (PyData.eqv (.list ([] ++ ([(0, a), (2, c), (3, d), (4, f)].filter fun p : Int × D => !isIndex p.2).map fun p => PyData.int p.1)) (.list []))))
              have hfe : (([(0, a), (2, c), (3, d), (4, f)].filter fun p : Int × D => !isIndex p.2).map fun p => PyData.int p.1).isEmpty = (isIndex a && (isIndex c && (isIndex d && isIndex f))) := by
                simp only [List.filter]
                cases isIndex a <;> cases isIndex c <;> cases isIndex d <;> cases isIndex f <;> rfl
              rw [eqv_list_nil, List.nil_append, hfe]
              exact hR
          · subst e3
            cases r with
            | tuple es =>
              refine ⟨int_dp _ _, ?_⟩
              show (if (!PyData.eqv (.int (es.length : Int)) (.int 3)) = true then _ else _)
              rw [eqv_ints]
              by_cases e4 : es.length = 3
              · rw [if_neg (by simp; omega)]
                obtain ⟨x, y, z, rfl⟩ : ∃ a b c, es = [a, b, c] := by
                  match es, e4 with
                  | [a, b, c], _ => exact ⟨a, b, c, rfl⟩
                refine ⟨rfl, x, rfl, hsr _ mr _ _ _ rfl, ?_⟩
                show (if (!isNameD x) = true then _ else _)
                have hn : isLetD (.tuple [x, y, z]) = (isNameD x && (isIndex y && isIndex z)) := rfl
                cases ex : isNameD x with
                | false => exact hf (by rw [hn, ex]; rfl)
                | true =>
                rw [if_neg (by decide)]
                simp only [wTv, wOp, wLc, wIt, wSl, wSo, wNo, wC, wVar, opSl, Val.rd, Val.kp, brw, List.set_cons_succ, List.set_cons_zero, List.getElem?_cons_succ, List.getElem?_cons_zero]
                have ec : cutG [x, y, z] (some 1) none = [y, z].map id := rfl
                rw [ec]
                refine lcW_fm id id (fun d => !isIndex d) (fun d m K acc hk => ?_) ?_
                · refine idx_test (d := d) (fun Q E q => q) ?_
                  show (if (!isIndex d) = true then _ else _)
                  cases e5 : isIndex d with
                  | true => rw [if_neg (by decide)]; rw [if_neg (by rw [e5]; decide)] at hk; exact hk
                  | false => rw [if_pos (by decide)]; rw [if_pos (by rw [e5]; rfl)] at hk; exact hk
                refine ⟨szr, Nat.le_trans (Nat.min_le_right _ _) (by decide), ?_⟩
                show (if (!PyData.eqv (.list ([] ++ ([y, z].filter fun d => !isIndex d).map id)) (.list [])) = true then _ else _)
                have hfe : (([y, z].filter fun d => !isIndex d).map id).isEmpty = (isIndex y && isIndex z) := by
                  simp only [List.filter]
                  cases isIndex y <;> cases isIndex z <;> rfl
                rw [eqv_list_nil, List.nil_append, hfe]
                cases e6 : isIndex y && isIndex z with
                | false => exact hf (by rw [hn, e6, ex]; rfl)
                | true => exact ht (by rw [hn, e6, ex]; rfl) _ ⟨_, _, _, rfl⟩
              · rw [if_pos (by simp; omega)]
                exact hf (by rw [let_three e4]; rfl)
            | _ => exact hf rfl
        | _ => cases hb
    · rw [if_pos (by simp; omega)]
      rw [harpF_tup e] at hR
      exact hR
  | _ => exact hR
end Pd

namespace Pd
open PySem PySem.Spec PyProof.Rows L2
def nn (d : D) : Bool := true ^^ isNon (.d d)
def td (e : Xn) : D := (tells e cs1).getD .none
def Good (o : Option Xn) : Prop := ∀ e, o = some e → nn (td e) = true ∧ noLst (td e) = true
theorem good_num (w : Str) (v lo hi : Int) : Good (numF w v lo hi) := fun e h => by
  unfold numF at h
  split at h
  · cases h; exact ⟨rfl, rfl⟩
  · split at h
    · cases h; exact ⟨rfl, rfl⟩
    · cases h
theorem toldD_find {a : Option Xn} (g : Good a) (l : List D) : (toldD a :: l).find? nn = (a.map td).or (l.find? nn) := by
  cases a with
  | none => rfl
  | some e =>
    rw [List.find?_cons]
    show (match nn (td e) with
      | true => some (td e)
      | false => _) = _
    rw [(g e rfl).1]
    rfl
/-- what one letter's row adds -/
def errsK (h : Hrp) (k : Int) : List D :=
  (if (h.row k).1 ∈ (h.rows.take k.toNat).map (·.1) then [td (bh (h.row k).1 "twice")] else []) ++
  ((if (0 < k ∧ (h.row k).2.1 ≤ (h.row (k - 1)).2.1) ∨ h.sz ≤ (h.row k).2.1 then [td (bh (h.row k).1 "base")] else []) ++ [if 1 < (h.row k).2.2 then td (bh (h.row k).1 "foot") else .none])
theorem errsK_find (h : Hrp) (k : Int) : (errsK h k).find? nn = (rowF h k).map td := by
  unfold errsK rowF
  split
  · rfl
  · split
    · rfl
    · split <;> rfl
theorem errsK_len (h : Hrp) (k : Int) : (errsK h k).length ≤ 3 := by
  unfold errsK
  split <;> split <;> simp
theorem found_find (h : Hrp) : (([toldD (numF "round" h.sz 2 24), toldD (numF "letters" h.L 2 9)] ++ (upto h.L).flatMap (errsK h)) ++ [toldD (numF "strings" h.n 1 60), toldD (numF "fingers" h.a 1 5), toldD (numF "reach" h.b 0 59)]).find? nn = (harpF' h).map td := by
  rw [List.find?_append, List.find?_append, toldD_find (good_num _ _ _ _), toldD_find (good_num _ _ _ _), toldD_find (good_num _ _ _ _), toldD_find (good_num _ _ _ _), toldD_find (good_num _ _ _ _), List.find?_flatMap]
  have e : (fun a => (errsK h a).find? nn) = (Option.map td) ∘ (rowF h) := funext fun k => errsK_find h k
  rw [e, ← List.map_findSome?]
  unfold harpF' letF
  cases numF "round" h.sz 2 24 <;> cases numF "letters" h.L 2 9 <;> cases (upto h.L).findSome? (rowF h) <;> cases numF "strings" h.n 1 60 <;> cases numF "fingers" h.a 1 5 <;> cases numF "reach" h.b 0 59 <;> rfl
theorem errs_noLst {h : Hrp} {k : Int} : ∀ d ∈ errsK h k, noLst d = true := by
  intro d m
  unfold errsK at m
  rcases List.mem_append.mp m with m | m
  · split at m
    · rw [List.mem_singleton.mp m]; rfl
    · cases m
  · rcases List.mem_append.mp m with m | m
    · split at m
      · rw [List.mem_singleton.mp m]; rfl
      · cases m
    · rw [List.mem_singleton.mp m]
      split <;> rfl
theorem told_noLst {a : Option Xn} (g : Good a) : noLst (toldD a) = true := by
  cases a with
  | none => rfl
  | some e => exact (g e rfl).2
theorem due_row {E : En} {H : Hrp} {k : Int} {acc : List D} {x : D} {o11 o12 : O} (h0 : 0 ≤ k) (h1 : k < H.L) (hl : acc.length + 3 ≤ 4000)
    (hk : ∀ o11, E.nx [some (.d x), some (.d (.int H.sz)), some (.d (.tuple (H.rows.map rowD))), some (.d (.int H.n)), some (.d (.int H.a)), some (.d (.int H.b)), some (.own (acc ++ errsK H k)), some (.d (.int k)), some (.d (.str (H.row k).1)), some (.d (.int (H.row k).2.1)), some (.d (.int (H.row k).2.2)), o11, o12]) :
    wSeq (wIfS (wTv (wOp opIn (wVar 8) (wLc (wIt (wSl (wVar 2) wNo (wSo (wVar 7)))) (bName 11) wYes (wOp opIx (wVar 11) (wC (.int 0))) [11]))) (wMt 6 mAppend (wCons (wTup (wCons (wC (.str "harp")) (wCons (wVar 8) (wCons (wC (.str "twice")) wNil)))) wNil)) wSkip) w__law_due_1 E
      [some (.d x), some (.d (.int H.sz)), some (.d (.tuple (H.rows.map rowD))), some (.d (.int H.n)), some (.d (.int H.a)), some (.d (.int H.b)), some (.own acc), some (.d (.int k)), some (.d (.str (H.row k).1)), some (.d (.int (H.row k).2.1)), some (.d (.int (H.row k).2.2)), o11, o12] := by
  have step : ∀ acc', acc'.length + 2 ≤ 4000 → acc' = acc ++ (if (H.row k).1 ∈ (H.rows.take k.toNat).map (·.1) then [td (bh (H.row k).1 "twice")] else []) → ∀ o11, w__law_due_1 E [some (.d x), some (.d (.int H.sz)), some (.d (.tuple (H.rows.map rowD))), some (.d (.int H.n)), some (.d (.int H.a)), some (.d (.int H.b)), some (.own acc'), some (.d (.int k)), some (.d (.str (H.row k).1)), some (.d (.int (H.row k).2.1)), some (.d (.int (H.row k).2.2)), o11, o12] := fun acc' hl' ea o11 => by
    have fin : ∀ acc2, acc2.length + 1 ≤ 4000 → acc2 = acc' ++ (if (0 < k ∧ (H.row k).2.1 ≤ (H.row (k - 1)).2.1) ∨ H.sz ≤ (H.row k).2.1 then [td (bh (H.row k).1 "base")] else []) → wMt 6 mAppend (wCons (wIf (wTv (wOp opGt (wVar 10) (wC (.int 1)))) (wTup (wCons (wC (.str "harp")) (wCons (wVar 8) (wCons (wC (.str "foot")) wNil)))) (wC .none)) wNil) E [some (.d x), some (.d (.int H.sz)), some (.d (.tuple (H.rows.map rowD))), some (.d (.int H.n)), some (.d (.int H.a)), some (.d (.int H.b)), some (.own acc2), some (.d (.int k)), some (.d (.str (H.row k).1)), some (.d (.int (H.row k).2.1)), some (.d (.int (H.row k).2.2)), o11, o12] := fun acc2 hl2 ea2 => by
      have hk' := hk o11
      have e : acc ++ errsK H k = acc2 ++ [if 1 < (H.row k).2.2 then td (bh (H.row k).1 "foot") else .none] := by
        rw [ea2, ea]
        unfold errsK
        simp only [List.append_assoc]
      rw [e] at hk'
      have z : acc2.length < sizeLine := by rw [sizeLine_eq]; omega
      show (if decide ((H.row k).2.2 > 1) = true then _ else _)
      by_cases h : 1 < (H.row k).2.2
      · rw [if_pos (by simpa using h)]
        rw [if_pos h] at hk'
        exact ⟨szr, z, hk'⟩
      · rw [if_neg (by simpa using h)]
        rw [if_neg h] at hk'
        exact ⟨z, hk'⟩
    have z : acc'.length < sizeLine := by rw [sizeLine_eq]; omega
    have yes : ((0 < k ∧ (H.row k).2.1 ≤ (H.row (k - 1)).2.1) ∨ H.sz ≤ (H.row k).2.1) → acc'.length < sizeLine ∧ wMt 6 mAppend (wCons (wIf (wTv (wOp opGt (wVar 10) (wC (.int 1)))) (wTup (wCons (wC (.str "harp")) (wCons (wVar 8) (wCons (wC (.str "foot")) wNil)))) (wC .none)) wNil) E [some (.d x), some (.d (.int H.sz)), some (.d (.tuple (H.rows.map rowD))), some (.d (.int H.n)), some (.d (.int H.a)), some (.d (.int H.b)), some (.own (acc' ++ [td (bh (H.row k).1 "base")])), some (.d (.int k)), some (.d (.str (H.row k).1)), some (.d (.int (H.row k).2.1)), some (.d (.int (H.row k).2.2)), o11, o12] := fun h =>
      ⟨z, fin _ (by rw [List.length_append, List.length_singleton]; omega) (by rw [if_pos h])⟩
    have no : ¬ ((0 < k ∧ (H.row k).2.1 ≤ (H.row (k - 1)).2.1) ∨ H.sz ≤ (H.row k).2.1) → wMt 6 mAppend (wCons (wIf (wTv (wOp opGt (wVar 10) (wC (.int 1)))) (wTup (wCons (wC (.str "harp")) (wCons (wVar 8) (wCons (wC (.str "foot")) wNil)))) (wC .none)) wNil) E [some (.d x), some (.d (.int H.sz)), some (.d (.tuple (H.rows.map rowD))), some (.d (.int H.n)), some (.d (.int H.a)), some (.d (.int H.b)), some (.own acc'), some (.d (.int k)), some (.d (.str (H.row k).1)), some (.d (.int (H.row k).2.1)), some (.d (.int (H.row k).2.2)), o11, o12] := fun h =>
      fin _ (by omega) (by rw [if_neg h, List.append_nil])
    have rest : ∀ (A B : Prop), (H.sz ≤ (H.row k).2.1 → A) → (¬ H.sz ≤ (H.row k).2.1 → B) → (if decide ((H.row k).2.1 ≥ H.sz) = true then A else B) := fun A B a b => by
      by_cases h3 : H.sz ≤ (H.row k).2.1
      · rw [if_pos (by simpa using h3)]
        exact a h3
      · rw [if_neg (by simpa using h3)]
        exact b h3
    show (if decide (k > 0) = true then _ else _)
    by_cases hk0 : 0 < k
    · rw [if_pos (by simpa using hk0)]
      simp only [wTv, wOp, wVar, wC, List.getElem?_cons_succ, List.getElem?_cons_zero, opSub, brw, Val.rd]
      refine ix_row (H := H) (j := k - 1) (by omega) (by omega) ?_
      show (if decide ((H.row k).2.1 ≤ (H.row (k - 1)).2.1) = true then _ else _)
      by_cases h2 : (H.row k).2.1 ≤ (H.row (k - 1)).2.1
      · rw [if_pos (by simpa using h2)]
        exact ⟨szr, yes (.inl ⟨hk0, h2⟩)⟩
      · rw [if_neg (by simpa using h2)]
        exact rest _ _ (fun h3 => ⟨szr, yes (.inr h3)⟩) fun h3 => no fun z => z.elim (fun z => h2 z.2) h3
    · rw [if_neg (by simpa using hk0)]
      exact rest _ _ (fun h3 => ⟨szr, yes (.inr h3)⟩) fun h3 => no fun z => z.elim (fun z => hk0 z.1) h3
  have hkl : k ≤ (H.rows.map rowD).length := by rw [List.length_map]; unfold Hrp.L at h1; omega
  simp only [wSeq, wIfS, wTv, wOp, wLc, wIt, wSl, wSo, wNo, wC, wVar, opSl, Val.rd, Val.kp, brw, List.set_cons_succ, List.set_cons_zero, List.getElem?_cons_succ, List.getElem?_cons_zero]
  rw [cut_to _ h0 hkl, ← List.map_take]
  refine lcW_mapf rowD (fun r => .str r.1) (fun r m K hK => hK) ?_
  have e0 : ([] ++ (H.rows.take k.toNat).map fun r => PyData.str r.1) = ((H.rows.take k.toNat).map (·.1)).map PyData.str := by rw [List.nil_append, List.map_map]; rfl
  rw [e0]
  refine ⟨Nat.le_trans (Nat.min_le_right _ _) (Nat.zero_le 100), ?_⟩
  show (if (false ^^ (((H.rows.take k.toNat).map (·.1)).map PyData.str).any fun y => PyData.eqv y (.str (H.row k).1)) = true then _ else _)
  rw [strs_any]
  by_cases h2 : (H.row k).1 ∈ (H.rows.take k.toNat).map (·.1)
  · rw [if_pos (by simpa using h2)]
    exact ⟨szr, by rw [sizeLine_eq]; omega, step _ (by rw [List.length_append, List.length_singleton]; omega) (by rw [if_pos h2]; rfl) _⟩
  · rw [if_neg (by simpa using h2)]
    exact step _ (by omega) (by rw [if_neg h2, List.append_nil]) _
theorem v__law_due : V__law_due := by
  intro ys R Ex hl ha h
  obtain ⟨x, rfl, hs, hR⟩ := h
  refine ⟨rfl, x, rfl, hs, ?_⟩
  show (if (!isHarpF x) = true then _ else _)
  cases e : isHarpF x with
  | false =>
    have ed : dueH x = .tuple [.str "harp", .str "", .str "form"] := by
      unfold dueH hFault
      rw [if_neg (by rw [e]; decide)]
      rfl
    rw [ed] at hR
    exact ⟨szr, hR⟩
  | true =>
    obtain ⟨H, rfl, f⟩ := harpF_of e
    rw [if_neg (by decide)]
    obtain ⟨few, _⟩ := hs _ _ _ _ _ rfl
    rw [List.length_map] at few
    refine ⟨rfl, ?_⟩
    refine ⟨rfl, "round", H.sz, 2, 24, rfl, ?_⟩
    refine ⟨rfl, "letters", ((H.rows.map rowD).length : Int), 2, 9, rfl, ?_⟩
    rw [List.length_map]
    show _ ∧ forW _ _ _ (enumD (H.rows.map rowD)) _
    refine ⟨szr, ?_⟩
    rw [enum_rows]
    have hL : (upto H.L).length = H.rows.length := by rw [upto_len]; unfold Hrp.L; omega
    refine forW_acc (errsK H) 3 (fun acc ρ => ∃ o7 o8 o9 o10 o11 o12, ρ = [some (.d H.d), some (.d (.int H.sz)), some (.d (.tuple (H.rows.map rowD))), some (.d (.int H.n)), some (.d (.int H.a)), some (.d (.int H.b)), some (.own acc), o7, o8, o9, o10, o11, o12]) (acc0 := [toldD (numF "round" H.sz 2 24), toldD (numF "letters" H.L 2 9)]) (N := 3000) (fun k _ => errsK_len H k) (by rw [hL]; simp; omega) (fun k mk acc ρ K ⟨o7, o8, o9, o10, o11, o12, e1⟩ hn hK => ?_) (fun ρ ⟨o7, o8, o9, o10, o11, o12, e1⟩ => ?_) _ ⟨_, _, _, _, _, _, rfl⟩
    · subst e1
      have k01 := mem_count mk
      refine ⟨rfl, rfl, ?_⟩
      exact due_row k01.1 k01.2 (by omega) fun o11 => hK _ ⟨_, _, _, _, _, _, rfl⟩
    · subst e1
      refine ⟨rfl, "strings", H.n, 1, 60, rfl, ?_⟩
      refine ⟨rfl, "fingers", H.a, 1, 5, rfl, ?_⟩
      refine ⟨rfl, "reach", H.b, 0, 59, rfl, ?_⟩
      generalize eF : ([toldD (numF "round" H.sz 2 24), toldD (numF "letters" H.L 2 9)] ++ (upto H.L).flatMap (errsK H)) = F0
      have hF0 : F0.length ≤ 3000 := by
        rw [← eF, List.length_append]
        have : ((upto H.L).flatMap (errsK H)).length ≤ (upto H.L).length * 3 := by
          generalize upto H.L = l
          induction l with
          | nil => simp
          | cons a r ih => rw [List.flatMap_cons, List.length_append, List.length_cons]; have := errsK_len H a; omega
        rw [hL] at this
        show 2 + _ ≤ _
        omega
      refine ⟨szr, ?_, ?_⟩
      · rw [sizeLine_eq]
        show F0.length + 3 ≤ _
        omega
      generalize eG : F0 ++ [toldD (numF "strings" H.n 1 60), toldD (numF "fingers" H.a 1 5), toldD (numF "reach" H.b 0 59)] = G
      have hG : G.find? nn = (harpF' H).map td := by rw [← eG, ← eF]; exact found_find H
      have nG : ∀ d ∈ G, noLst d = true := by
        intro d m
        rw [← eG, ← eF] at m
        rcases List.mem_append.mp m with m | m
        · rcases List.mem_append.mp m with m | m
          · simp only [List.mem_cons, List.not_mem_nil, or_false] at m
            rcases m with rfl | rfl <;> exact told_noLst (good_num _ _ _ _)
          · obtain ⟨k, _, m⟩ := List.mem_flatMap.mp m
            exact errs_noLst d m
        · simp only [List.mem_cons, List.not_mem_nil, or_false] at m
          rcases m with rfl | rfl | rfl <;> exact told_noLst (good_num _ _ _ _)
      have hlen : G.length ≤ 3003 := by rw [← eG, List.length_append]; simp; omega
      show w__law_due_2 (endW R Ex) [some (.d H.d), some (.d (.int H.sz)), some (.d (.tuple (H.rows.map rowD))), some (.d (.int H.n)), some (.d (.int H.a)), some (.d (.int H.b)), some (.own G), o7, o8, o9, o10, o11, o12]
      simp only [w__law_due_2, wSeq, wSet, wThaw, wLc, wItL, wVar, Val.kp, brw, List.set_cons_succ, List.set_cons_zero, List.getElem?_cons_succ, List.getElem?_cons_zero]
      have eg : G = G.map id := by simp
      rw [eg]
      refine lcW_fm id id nn (fun d m K acc hk => ?_) ?_
      · show (if nn d = true then _ else _)
        cases e5 : nn d with
        | false => rw [if_neg (by decide)]; rw [if_neg (by rw [e5]; decide)] at hk; exact hk
        | true => rw [if_pos rfl]; rw [if_pos e5] at hk; exact hk
      rw [List.nil_append, List.map_id]
      refine ⟨noLsts_mem fun d m => nG d (List.mem_filter.mp m).1, ?_⟩
      have hh : (G.filter nn).head? = (harpF' H).map td := by rw [List.head?_filter]; exact hG
      show _ ∧ min _ _ ≤ 100 ∧ (if (!PyData.eqv (.list (G.filter nn)) (.list [])) = true then _ else _)
      refine ⟨szr, Nat.le_trans (Nat.min_le_right _ _) (by decide), ?_⟩
      rw [eqv_list_nil]
      have ed : dueH H.d = match harpF' H with
        | none => .tuple [.str "told", H.d]
        | some e => td e := by unfold dueH; rw [hFault_d e]; cases harpF' H <;> rfl
      rw [ed] at hR
      cases q : harpF' H with
      | none =>
        rw [q] at hh hR
        rw [List.head?_eq_none_iff.mp hh]
        exact ⟨szr, hR⟩
      | some e =>
        rw [q] at hh hR
        obtain ⟨d, l, e2⟩ : ∃ d l, G.filter nn = d :: l := by
          cases h : G.filter nn with
          | nil => rw [h] at hh; cases hh
          | cons d l => exact ⟨d, l, rfl⟩
        rw [e2] at hh ⊢
        have hd : d = td e := Option.some.inj hh
        subst hd
        rw [if_pos (by rfl)]
        show match atI (td e :: l) 0 with
          | some d => R (.d d)
          | none => False
        have z0 : atI (td e :: l) 0 = some (td e) := by
          haveI : Inhabited D := ⟨.none⟩
          have := atI_map (f := id) (l := td e :: l) (j := 0) (Int.le_refl 0) (by simp only [List.length_cons]; omega)
          rw [List.map_id] at this
          exact this
        rw [z0]
        exact hR
end Pd

namespace Pd
open PySem PySem.Spec PyProof.Rows L2
theorem g_row {B : Int} {s : Str} {b f : Int} (hB : B ≤ 400000) (h : s.length ≤ 10 ∧ PyData.strOk s = true ∧ -1 ≤ b ∧ b ≤ B ∧ -1 ≤ f ∧ f ≤ B) : GRow B (.tuple [.str s, .int b, .int f]) :=
  ⟨((SmAll.cons (Sm.str (strOk_wide h.2.1) h.1) (SmAll.cons (Sm.int (by omega) (by omega)) (SmAll.cons (Sm.int (by omega) (by omega)) .nil))).tup).mono (by decide) (by decide), fun a b c e s' e' => by
    simp only [PyData.tuple.injEq, List.cons.injEq, and_true] at e
    rw [← e.1] at e'
    cases e'
    omega, fun r e => by
    obtain ⟨s1, b1, f1⟩ := r
    unfold rowD at e
    simp only [PyData.tuple.injEq, List.cons.injEq, PyData.str.injEq, PyData.int.injEq, and_true] at e
    obtain ⟨rfl, rfl, rfl⟩ := e
    exact ⟨h.1, h.2.1, h.2.2.2.1, h.2.2.2.2.2⟩⟩
theorem g_odd {B : Int} {x : D} (s : Sm 200 1 x) (h : ∀ a b c, x = .tuple [a, b, c] → Short a ∧ ∀ r, x ≠ rowD r) : GRow B x :=
  ⟨s, fun a b c e => (h a b c e).1, fun r e => absurd e ((h _ _ _ e).2 r)⟩
theorem gi {B i : Int} (hB : B ≤ 400000) (h0 : -1 ≤ i) (h1 : i ≤ B) : GNum B (.int i) := ⟨Sm.int (by omega) (by omega), fun j e => by cases e; exact h1⟩
theorem gn {B : Int} {x : D} (s : Sm 40 0 x) (h : ∀ i, x ≠ .int i) : GNum B x := ⟨s, fun i e => absurd e (h i)⟩
theorem BddH.rows_ok {B : Int} {M : Nat} {H : Hrp} (h : BddH B M H) (hB : B ≤ 200000) : ∀ d ∈ H.rows.map rowD, GRow (B + 1) d := fun d m => by
  obtain ⟨r, mr, rfl⟩ := List.mem_map.mp m
  have := h.row r mr
  obtain ⟨s, b, f⟩ := r
  exact g_row (by omega) ⟨this.1, this.2.1, by have := this.2.2.1; simp only at this; omega, by have := this.2.2.2.1; simp only at this; omega, by have := this.2.2.2.2.1; simp only at this; omega, by have := this.2.2.2.2.2; simp only at this; omega⟩
theorem BddH.num_ok {B : Int} {M : Nat} {H : Hrp} (h : BddH B M H) (hB : B ≤ 200000) : GNum (B + 1) (.int H.sz) ∧ GNum (B + 1) (.int H.n) ∧ GNum (B + 1) (.int H.a) ∧ GNum (B + 1) (.int H.b) := by
  have a := h.num H.sz (by simp)
  have b := h.num H.n (by simp)
  have c := h.num H.a (by simp)
  have d := h.num H.b (by simp)
  exact ⟨gi (by omega) (by omega) (by omega), gi (by omega) (by omega) (by omega), gi (by omega) (by omega) (by omega), gi (by omega) (by omega) (by omega)⟩
theorem BddH.smr {B : Int} {M : Nat} {H : Hrp} (h : BddH B M H) (hB : B ≤ 200000) (hM : M ≤ 100) : SmAll 20100 1 (H.rows.map rowD) :=
  (SmAll.of fun d m => (h.rows_ok hB d m).sm).mono (by rw [List.length_map]; have := h.len; omega) (Nat.le_refl _)
theorem okay_rows {B : Int} {M : Nat} {H : Hrp} (h : BddH B M H) (hB : B ≤ 200000) {ds : List D} (hl : ds.length ≤ M + 1) (hd : ∀ d ∈ ds, GRow (B + 1) d) : OkayH (B + 1) (M + 1) (.tuple [.int H.sz, .tuple ds, .int H.n, .int H.a, .int H.b]) := by
  obtain ⟨a, b, c, d⟩ := h.num_ok hB
  exact .inl ⟨_, _, _, _, _, rfl, by simp only [List.mem_cons, List.not_mem_nil, or_false]; rintro n (rfl | rfl | rfl | rfl) <;> assumption, hl, hd⟩
theorem okay_num {B : Int} {M : Nat} {H : Hrp} (h : BddH B M H) (hB : B ≤ 200000) {n0 n2 n3 n4 : D} (g : GNum (B + 1) n0 ∧ GNum (B + 1) n2 ∧ GNum (B + 1) n3 ∧ GNum (B + 1) n4) : OkayH (B + 1) (M + 1) (.tuple [n0, .tuple (H.rows.map rowD), n2, n3, n4]) := by
  obtain ⟨a, b, c, d⟩ := g
  exact .inl ⟨_, _, _, _, _, rfl, by simp only [List.mem_cons, List.not_mem_nil, or_false]; rintro n (rfl | rfl | rfl | rfl) <;> assumption, by rw [List.length_map]; have := h.len; omega, h.rows_ok hB⟩
theorem okay_odd {B : Int} {M : Nat} {y : D} (s : Sm 40000 4 y) (h : ∀ a ds b c d, y ≠ .tuple [a, .tuple ds, b, c, d]) : OkayH B M y :=
  .inr ⟨by
    unfold isHarpF
    split
    · exact absurd rfl (h _ _ _ _ _)
    · rfl, s, fun a rows b c d e => absurd e (h _ _ _ _ _)⟩
set_option maxHeartbeats 2000000 in
theorem bentH_row {R : Val → Prop} {Ex : Xn → Prop} {B : Int} {M : Nat} {H : Hrp} {v k : Int} {s : Str} {b f : Int} (hB0 : 100 ≤ B) (hB : B ≤ 200000) (hM : M ≤ 100) (h : BddH B M H) (hR : ∀ y, OkayH (B + 1) (M + 1) y → R (.d y)) (k0 : 0 ≤ k) (k1 : k < H.rows.length) (mr : (s, b, f) ∈ H.rows) :
    w__law_bent_2 (endW R Ex) [some .bag, some (.d H.d), some (.d (.int v)), some (.d (.int k)), some (.d (.str s)), some (.d (.int b)), some (.d (.int f)), none, none] := by
  have hl := h.len
  have hr := h.row _ mr
  have hz := h.num H.sz (by simp)
  have at0 : atI (H.rows.map rowD) 0 = some (rowD (H.row 0)) := Hrp.at_ (Int.le_refl 0) (by unfold Hrp.L; omega)
  obtain ⟨r0, mr0, er0⟩ : ∃ n ∈ H.rows, H.row 0 = n := by
    have h3 : 0 < H.rows.length := by omega
    exact ⟨_, List.getElem_mem h3, by simp [Hrp.row, List.getD, h3]⟩
  rw [er0] at at0
  have hr0 := h.row _ mr0
  obtain ⟨s0, b0, f0⟩ := r0
  simp only at hr hr0
  simp only [w__law_bent_2, wSeq, wIfS, wSkip, wRet, wRetN, wRetL, wRaise0, wSetD, wSet, wAug, wAsg, wMt, wFor, wDo, wFrz, wBagSet, wBagAdd, wBagCell, wBag, wVar, wC, wOp, wNeg, wTv, wTnot, wTand, wTor, wAnd, wOr, wNot, wIf, wChain, wIsN, wIsi, wNil, wCons, wStar, wTup, wLst, wCB, wCall, wCallV, wCallL, wFnA, wHeard, wSl, wSo, wNo, wRng1, wRng2, wRng3, wIt, wItL, wItS, wLc, wYes, wSortedSet, bName, bTup, bCons, bNil, op1, op2i, bAbs, bMax2, bMin2, bInt, bSum, bRepr, opAdd, opSub, opMul, opMod, opFdiv, opPow, opCmp, opIsB, mAppend, mInsert, mExtend, keeps, toArgs, toArg, Val.rd, Val.kp, brw, slv, isNon, noFn, endW, wipeE, List.getElem?_cons_zero, List.getElem?_cons_succ, List.map_cons, List.map_nil, List.cons_append, List.nil_append, List.set_cons_zero, List.set_cons_succ, List.length_cons, List.length_nil, Bool.false_xor, Bool.true_xor, wEnum, wZip, bStr, wFmt, wJoined, wJcons, wJnil, wLR1, wTR3, wPm, pIndex, reads, tyD, opRepT, wLc2, wUnp, wUcons, wThaw, wThawT, wRev, wRaise2, wRaised, bBest, wSortedKeys, wIntE, wDNew, wpRoot, wpSub, opIxT, opInT, bLenT, kidK, kidV, isKey, wAsgG, gB, gNl, gCn, gTp, gSb, setAt, wPAug, intAt, slotT, asT, ofT]
  refine ⟨szr, ?_⟩
  refine ⟨szr, ?_⟩
  show opIx (.d (.tuple (H.rows.map rowD))) (.d (.int 0)) (fun z => opIx z (.d (.int 0)) _)
  refine ix_tup at0 ?_
  refine ⟨szr, szr, szr, szr, szr, szr, szr, ?_⟩
  simp only [w__law_bent_1, wSeq, wIfS, wSkip, wRet, wRetN, wRetL, wRaise0, wSetD, wSet, wAug, wAsg, wMt, wFor, wDo, wFrz, wBagSet, wBagAdd, wBagCell, wBag, wVar, wC, wOp, wNeg, wTv, wTnot, wTand, wTor, wAnd, wOr, wNot, wIf, wChain, wIsN, wIsi, wNil, wCons, wStar, wTup, wLst, wCB, wCall, wCallV, wCallL, wFnA, wHeard, wSl, wSo, wNo, wRng1, wRng2, wRng3, wIt, wItL, wItS, wLc, wYes, wSortedSet, bName, bTup, bCons, bNil, op1, op2i, bAbs, bMax2, bMin2, bInt, bSum, bRepr, opAdd, opSub, opMul, opMod, opFdiv, opPow, opCmp, opIsB, mAppend, mInsert, mExtend, keeps, toArgs, toArg, Val.rd, Val.kp, brw, slv, isNon, noFn, endW, wipeE, List.getElem?_cons_zero, List.getElem?_cons_succ, List.map_cons, List.map_nil, List.cons_append, List.nil_append, List.set_cons_zero, List.set_cons_succ, List.length_cons, List.length_nil, Bool.false_xor, Bool.true_xor, wEnum, wZip, bStr, wFmt, wJoined, wJcons, wJnil, wLR1, wTR3, wPm, pIndex, reads, tyD, opRepT, wLc2, wUnp, wUcons, wThaw, wThawT, wRev, wRaise2, wRaised, bBest, wSortedKeys, wIntE, wDNew, wpRoot, wpSub, opIxT, opInT, bLenT, kidK, kidV, isKey, wAsgG, gB, gNl, gCn, gTp, gSb, setAt, wPAug, intAt, slotT, asT, ofT]
  refine ⟨szr, szr, szr, ?_⟩
  show opIx (.d (.tuple (H.rows.map rowD))) (.d (.int 0)) (fun z => opIx z (.d (.int 1)) _)
  refine ix_tup at0 ?_
  refine ⟨szr, szr, szr, ?_⟩
  refine ⟨trivial, _, rfl, by simp, by simp, fun x hx => ?_⟩
  have ox : GRow (B + 1) x := by
    simp only [List.mem_append, List.mem_cons, List.not_mem_nil, or_false] at hx
    have si : ∀ i : Int, -(B + 1) ≤ i → i ≤ B + 1 → Sm 40 0 (.int i) := fun i h0 h1 => Sm.int (by omega) (by omega)
    have ss : Sm 10 0 (.str s) := Sm.str (strOk_wide hr.2.1) hr.1
    rcases hx with rfl | rfl | rfl | rfl | rfl | rfl | rfl | rfl | rfl | rfl | rfl | rfl | rfl
    · exact g_row (by omega) ⟨hr.1, hr.2.1, by omega, by omega, by omega, by omega⟩
    · exact g_row (by omega) ⟨hr.1, hr.2.1, by omega, by omega, by omega, by omega⟩
    · exact g_row (by omega) ⟨hr0.1, hr0.2.1, by omega, by omega, by omega, by omega⟩
    · exact g_row (by omega) ⟨hr.1, hr.2.1, by omega, by omega, by omega, by omega⟩
    · exact g_row (by omega) ⟨by decide, by decide +kernel, by omega, by omega, by omega, by omega⟩
    · exact g_row (by omega) ⟨by decide, by decide +kernel, by omega, by omega, by omega, by omega⟩
    · exact g_odd (((SmAll.cons ss (SmAll.cons (Sm.bool true) (SmAll.cons (si f (by omega) (by omega)) .nil))).tup).mono (by decide) (by decide)) fun p q r e => by
        simp only [PyData.tuple.injEq, List.cons.injEq, and_true] at e
        obtain ⟨rfl, rfl, rfl⟩ := e
        exact ⟨fun s' e' => by cases e'; omega, fun r e' => by unfold rowD at e'; simp at e'⟩
    · exact g_row (by omega) ⟨hr.1, hr.2.1, by omega, by omega, by omega, by omega⟩
    · exact g_odd (((SmAll.cons ss (SmAll.cons (si b (by omega) (by omega)) .nil)).tup).mono (by decide) (by decide)) fun p q r e => by simp at e
    · exact g_odd (((SmAll.cons ss (SmAll.cons (si b (by omega) (by omega)) (SmAll.cons (si f (by omega) (by omega)) .nil))).list).mono (by decide) (by decide)) fun p q r e => by simp at e
    · exact g_odd (Sm.none.mono (by decide) (by decide)) fun p q r e => by simp at e
    · exact g_row (by omega) ⟨by decide, by decide +kernel, by omega, by omega, by omega, by omega⟩
    · exact g_row (by omega) ⟨hr.1, hr.2.1, by omega, by omega, by omega, by omega⟩
  have c1 : cutG (H.rows.map rowD) none (some k) = (H.rows.map rowD).take k.toNat := cut_to _ k0 (by rw [List.length_map]; omega)
  show 1 ≤ sizeLine ∧ (cutG (H.rows.map rowD) none (some k)).length + 1 ≤ sizeLine ∧ _
  rw [c1]
  refine ⟨szr, by rw [List.length_take, List.length_map]; exact szl (by omega), ?_⟩
  refine ⟨trivial, 2, rfl, by decide, by decide, fun v v0 v1 => ?_⟩
  have c2 : cutG (H.rows.map rowD) (some (k + v)) none = (H.rows.map rowD).drop (k + v).toNat := cut_from _ (by omega) (by rw [List.length_map]; omega)
  show ((H.rows.map rowD).take k.toNat ++ [x]).length + (cutG (H.rows.map rowD) (some (k + v)) none).length ≤ sizeLine ∧ 1 ≤ sizeLine ∧ 2 ≤ sizeLine ∧ 5 ≤ sizeLine ∧ R (.d (.tuple [.int H.sz, .tuple ((H.rows.map rowD).take k.toNat ++ [x] ++ cutG (H.rows.map rowD) (some (k + v)) none), .int H.n, .int H.a, .int H.b]))
  rw [c2]
  have len : ((H.rows.map rowD).take k.toNat ++ [x] ++ (H.rows.map rowD).drop (k + v).toNat).length ≤ M + 1 := by
    simp only [List.length_append, List.length_take, List.length_drop, List.length_map, List.length_cons, List.length_nil]
    omega
  refine ⟨by rw [← List.length_append]; exact szl (by omega), szr, szr, szr, hR _ (okay_rows h hB len fun d md => ?_)⟩
  simp only [List.mem_append, List.mem_singleton] at md
  rcases md with (md | md) | md
  · exact h.rows_ok hB d (List.mem_of_mem_take md)
  · rw [md]; exact ox
  · exact h.rows_ok hB d (List.mem_of_mem_drop md)
theorem v__law_bent : V__law_bent := by
  intro ys R Ex hl ha h
  obtain ⟨H, B, M, rfl, hB0, hB, hM, h, hR⟩ := h
  have hl := h.len
  have n0 : 0 < H.rows.length := List.length_pos_iff.mpr h.len0
  have hz := h.num H.sz (by simp)
  have hn := h.num H.n (by simp)
  have ha := h.num H.a (by simp)
  have hb := h.num H.b (by simp)
  have smr := h.smr hB hM
  obtain ⟨gz, gN, gA, gB'⟩ := h.num_ok hB
  refine ⟨rfl, ?_⟩
  refine ⟨8, rfl, by decide, by decide, fun v v0 v1 => ?_⟩
  refine ⟨rfl, (((H.rows.map rowD).length : Nat) : Int), rfl, by rw [List.length_map]; omega, by rw [List.length_map]; omega, fun k k0 k1 => ?_⟩
  rw [List.length_map] at k1
  show w__law_bent_6 (endW R Ex) [some .bag, some (.d H.d), some (.d (.int v)), some (.d (.int k)), none, none, none, none, none]
  show (if decide (v < 4) = true then _ else _)
  by_cases e0 : v < 4
  · rw [if_pos (decide_eq_true e0)]
    have at1 : atI (H.rows.map rowD) k = some (rowD (H.row k)) := Hrp.at_ k0 (by unfold Hrp.L; omega)
    obtain ⟨⟨s, b, f⟩, mr, er⟩ : ∃ n ∈ H.rows, H.row k = n := by
      have h3 : k.toNat < H.rows.length := by omega
      exact ⟨_, List.getElem_mem h3, by simp [Hrp.row, List.getD, h3]⟩
    rw [er] at at1
    simp only [wSeq, wAsg, wOp, wVar, wC, brw, List.getElem?_cons_zero, List.getElem?_cons_succ]
    refine ix_rows ?_
    refine ix_tup at1 ?_
    refine ⟨rfl, ?_⟩
    exact bentH_row hB0 hB hM h hR k0 k1 mr
  rw [if_neg (by simpa using e0)]
  refine ⟨int_dp _ _, ?_⟩
  show (if PyData.eqv (.int v) (.int 4) = true then _ else _)
  rw [eqv_ints]
  by_cases e1 : v = 4
  · rw [if_pos (decide_eq_true e1)]
    simp only [wSeq, wIfS, wSkip, wRet, wRetN, wRetL, wRaise0, wSetD, wSet, wAug, wAsg, wMt, wFor, wDo, wFrz, wBagSet, wBagAdd, wBagCell, wBag, wVar, wC, wOp, wNeg, wTv, wTnot, wTand, wTor, wAnd, wOr, wNot, wIf, wChain, wIsN, wIsi, wNil, wCons, wStar, wTup, wLst, wCB, wCall, wCallV, wCallL, wFnA, wHeard, wSl, wSo, wNo, wRng1, wRng2, wRng3, wIt, wItL, wItS, wLc, wYes, wSortedSet, bName, bTup, bCons, bNil, op1, op2i, bAbs, bMax2, bMin2, bInt, bSum, bRepr, opAdd, opSub, opMul, opMod, opFdiv, opPow, opCmp, opIsB, mAppend, mInsert, mExtend, keeps, toArgs, toArg, Val.rd, Val.kp, brw, slv, isNon, noFn, endW, wipeE, List.getElem?_cons_zero, List.getElem?_cons_succ, List.map_cons, List.map_nil, List.cons_append, List.nil_append, List.set_cons_zero, List.set_cons_succ, List.length_cons, List.length_nil, Bool.false_xor, Bool.true_xor, wEnum, wZip, bStr, wFmt, wJoined, wJcons, wJnil, wLR1, wTR3, wPm, pIndex, reads, tyD, opRepT, wLc2, wUnp, wUcons, wThaw, wThawT, wRev, wRaise2, wRaised, bBest, wSortedKeys, wIntE, wDNew, wpRoot, wpSub, opIxT, opInT, bLenT, kidK, kidV, isKey, wAsgG, gB, gNl, gCn, gTp, gSb, setAt, wPAug, intAt, slotT, asT, ofT]
    refine ⟨szr, ?_⟩
    refine ⟨szr, trivial, _, rfl, by simp, by simp, fun x hx => ?_⟩
    have fin : OkayH (B + 1) (M + 1) (.tuple [.int H.sz, x, .int H.n, .int H.a, .int H.b]) := by
      simp only [List.mem_cons, List.not_mem_nil, or_false] at hx
      rcases hx with rfl | rfl | rfl | rfl
      · exact okay_rows h hB (by rw [List.length_reverse, List.length_map]; omega) fun d md => h.rows_ok hB d (List.mem_reverse.mp md)
      · have c1 : cutG (H.rows.map rowD) none (some 1) = (H.rows.map rowD).take (1 : Int).toNat := cut_to _ (by decide) (by rw [List.length_map]; omega)
        rw [c1]
        exact okay_rows h hB (by rw [List.length_take, List.length_map]; omega) fun d md => h.rows_ok hB d (List.mem_of_mem_take md)
      · exact okay_rows h hB (Nat.zero_le _) fun d md => by cases md
      · exact okay_odd (((SmAll.cons gz.sm (SmAll.cons smr.list (SmAll.cons gN.sm (SmAll.cons gA.sm (SmAll.cons gB'.sm .nil))))).tup).mono (by omega) (by omega)) fun a ds b c d e => by simp at e
    exact ⟨szr, szr, szr, hR _ fin⟩
  rw [if_neg (by simpa using e1)]
  refine ⟨int_dp _ _, ?_⟩
  show (if PyData.eqv (.int v) (.int 5) = true then _ else _)
  rw [eqv_ints]
  by_cases e2 : v = 5
  · rw [if_pos (decide_eq_true e2)]
    simp only [wSeq, wIfS, wSkip, wRet, wRetN, wRetL, wRaise0, wSetD, wSet, wAug, wAsg, wMt, wFor, wDo, wFrz, wBagSet, wBagAdd, wBagCell, wBag, wVar, wC, wOp, wNeg, wTv, wTnot, wTand, wTor, wAnd, wOr, wNot, wIf, wChain, wIsN, wIsi, wNil, wCons, wStar, wTup, wLst, wCB, wCall, wCallV, wCallL, wFnA, wHeard, wSl, wSo, wNo, wRng1, wRng2, wRng3, wIt, wItL, wItS, wLc, wYes, wSortedSet, bName, bTup, bCons, bNil, op1, op2i, bAbs, bMax2, bMin2, bInt, bSum, bRepr, opAdd, opSub, opMul, opMod, opFdiv, opPow, opCmp, opIsB, mAppend, mInsert, mExtend, keeps, toArgs, toArg, Val.rd, Val.kp, brw, slv, isNon, noFn, endW, wipeE, List.getElem?_cons_zero, List.getElem?_cons_succ, List.map_cons, List.map_nil, List.cons_append, List.nil_append, List.set_cons_zero, List.set_cons_succ, List.length_cons, List.length_nil, Bool.false_xor, Bool.true_xor, wEnum, wZip, bStr, wFmt, wJoined, wJcons, wJnil, wLR1, wTR3, wPm, pIndex, reads, tyD, opRepT, wLc2, wUnp, wUcons, wThaw, wThawT, wRev, wRaise2, wRaised, bBest, wSortedKeys, wIntE, wDNew, wpRoot, wpSub, opIxT, opInT, bLenT, kidK, kidV, isKey, wAsgG, gB, gNl, gCn, gTp, gSb, setAt, wPAug, intAt, slotT, asT, ofT]
    refine ⟨szr, ?_⟩
    refine ⟨szr, szr, szr, trivial, _, rfl, by simp, by simp, fun x hx => hR _ ?_⟩
    have all5 := SmAll.cons gz.sm (SmAll.cons smr.tup (SmAll.cons gN.sm (SmAll.cons gA.sm (SmAll.cons gB'.sm .nil))))
    simp only [List.mem_cons, List.not_mem_nil, or_false] at hx
    rcases hx with rfl | rfl | rfl | rfl | rfl
    · exact okay_odd (Sm.none.mono (by decide) (by decide)) fun a ds b c d e => by simp at e
    · exact okay_odd ((SmAll.nil.tup).mono (by decide) (by decide)) fun a ds b c d e => by simp at e
    · exact okay_odd ((all5.list).mono (by omega) (by omega)) fun a ds b c d e => by simp at e
    · exact okay_odd (((SmAll.cons gz.sm (SmAll.cons smr.tup (SmAll.cons gN.sm (SmAll.cons gA.sm .nil)))).tup).mono (by omega) (by omega)) fun a ds b c d e => by cases e
    · exact okay_odd (((SmAll.cons gz.sm (SmAll.cons smr.tup (SmAll.cons gN.sm (SmAll.cons gA.sm (SmAll.cons gB'.sm (SmAll.cons (Sm.int (i := 0) (by decide) (by decide)) .nil)))))).tup).mono (by omega) (by omega)) fun a ds b c d e => by cases e
  rw [if_neg (by simpa using e2)]
  simp only [w__law_bent_3, wSeq, wIfS, wSkip, wRet, wRetN, wRetL, wRaise0, wSetD, wSet, wAug, wAsg, wMt, wFor, wDo, wFrz, wBagSet, wBagAdd, wBagCell, wBag, wVar, wC, wOp, wNeg, wTv, wTnot, wTand, wTor, wAnd, wOr, wNot, wIf, wChain, wIsN, wIsi, wNil, wCons, wStar, wTup, wLst, wCB, wCall, wCallV, wCallL, wFnA, wHeard, wSl, wSo, wNo, wRng1, wRng2, wRng3, wIt, wItL, wItS, wLc, wYes, wSortedSet, bName, bTup, bCons, bNil, op1, op2i, bAbs, bMax2, bMin2, bInt, bSum, bRepr, opAdd, opSub, opMul, opMod, opFdiv, opPow, opCmp, opIsB, mAppend, mInsert, mExtend, keeps, toArgs, toArg, Val.rd, Val.kp, brw, slv, isNon, noFn, endW, wipeE, List.getElem?_cons_zero, List.getElem?_cons_succ, List.map_cons, List.map_nil, List.cons_append, List.nil_append, List.set_cons_zero, List.set_cons_succ, List.length_cons, List.length_nil, Bool.false_xor, Bool.true_xor, wEnum, wZip, bStr, wFmt, wJoined, wJcons, wJnil, wLR1, wTR3, wPm, pIndex, reads, tyD, opRepT, wLc2, wUnp, wUcons, wThaw, wThawT, wRev, wRaise2, wRaised, bBest, wSortedKeys, wIntE, wDNew, wpRoot, wpSub, opIxT, opInT, bLenT, kidK, kidV, isKey, wAsgG, gB, gNl, gCn, gTp, gSb, setAt, wPAug, intAt, slotT, asT, ofT]
  refine ⟨szr, ?_⟩
  refine ⟨trivial, _, rfl, by simp, by simp, fun at_ hat => ?_⟩
  have odd : ∀ z, GNum (B + 1) z → ∀ x, x ∈ [.int 0, .int 1, .int 2, .int 5, .int 6, .int 24, .int 25, .int 59, .int 60, .int 61, .bool true, .none, .int (-1), z] → GNum (B + 1) x := fun z gz x hx => by
    simp only [List.mem_cons, List.not_mem_nil, or_false] at hx
    rcases hx with rfl | rfl | rfl | rfl | rfl | rfl | rfl | rfl | rfl | rfl | rfl | rfl | rfl | rfl
    iterate 10 exact gi (by omega) (by omega) (by omega)
    · exact gn ((Sm.bool true).mono (by decide) (by decide)) fun i e => by cases e
    · exact gn (Sm.none.mono (by decide) (by decide)) fun i e => by cases e
    · exact gi (by omega) (by omega) (by omega)
    · exact gz
  simp only [List.mem_cons, List.not_mem_nil, or_false] at hat
  rcases hat with rfl | rfl | rfl | rfl
  · refine ⟨szr, trivial, _, rfl, by simp, by simp, fun x hx => ?_⟩
    exact ⟨szr, szr, szr, hR _ (okay_num h hB ⟨odd _ gz _ hx, gN, gA, gB'⟩)⟩
  · refine ⟨szr, trivial, _, rfl, by simp, by simp, fun x hx => ?_⟩
    exact ⟨szr, szr, szr, hR _ (okay_num h hB ⟨gz, odd _ gN _ hx, gA, gB'⟩)⟩
  · refine ⟨szr, trivial, _, rfl, by simp, by simp, fun x hx => ?_⟩
    exact ⟨szr, szr, szr, hR _ (okay_num h hB ⟨gz, gN, odd _ gA _ hx, gB'⟩)⟩
  · refine ⟨szr, trivial, _, rfl, by simp, by simp, fun x hx => ?_⟩
    exact ⟨szr, szr, szr, hR _ (okay_num h hB ⟨gz, gN, gA, odd _ gB' _ hx⟩)⟩
end Pd

namespace Pd
open PySem PySem.Spec PyProof.Rows L2
structure FinH (y : D) : Prop where
  sm : Sm 40000 4 y
  sh : ShortH y
  nm : ∀ H : Hrp, y = H.d → isHarpF y = true → ∀ r ∈ H.rows, r.1.length ≤ 10 ∧ PyData.strOk r.1 = true
theorem OkayH.fin {B : Int} {M : Nat} {y : D} (h : OkayH B M y) (hM : M ≤ 150) : FinH y := by
  rcases h with ⟨n0, ds, n2, n3, n4, rfl, hn, hl, hd⟩ | ⟨e, s, sh⟩
  · have r : SmAll 30150 1 ds := (SmAll.of fun d m => (hd d m).sm).mono (by omega) (Nat.le_refl _)
    refine ⟨((SmAll.cons (hn n0 (by simp)).sm (SmAll.cons r.tup (SmAll.cons (hn n2 (by simp)).sm (SmAll.cons (hn n3 (by simp)).sm (SmAll.cons (hn n4 (by simp)).sm .nil))))).tup).mono (by decide) (by decide), ?_, ?_⟩
    · intro a rows b c d e
      simp only [PyData.tuple.injEq, List.cons.injEq, and_true] at e
      obtain ⟨rfl, rfl, rfl, rfl, rfl⟩ := e
      exact ⟨by omega, fun r m => (hd r m).sh⟩
    · intro H e _ r m
      unfold Hrp.d at e
      simp only [PyData.tuple.injEq, List.cons.injEq, and_true] at e
      have md : rowD r ∈ ds := by rw [e.2.1]; exact List.mem_map_of_mem m
      have := (hd _ md).bd r rfl
      exact ⟨this.1, this.2.1⟩
  · exact ⟨s, sh, fun H _ e' => by rw [e] at e'; cases e'⟩
theorem OkayH.bdd {B : Int} {M : Nat} {H : Hrp} (h : OkayH B M H.d) (e : isHarpF H.d = true) (f : FormH H) (ne : H.rows ≠ []) : BddH B M H := by
  rcases h with ⟨n0, ds, n2, n3, n4, e1, hn, hl, hd⟩ | ⟨e', _, _⟩
  · unfold Hrp.d at e1
    simp only [PyData.tuple.injEq, List.cons.injEq, and_true] at e1
    obtain ⟨rfl, rfl, rfl, rfl, rfl⟩ := e1
    refine ⟨fun i m => ?_, ne, by rw [List.length_map] at hl; exact hl, fun r m => ?_⟩
    · simp only [List.mem_cons, List.not_mem_nil, or_false] at m
      rcases m with rfl | rfl | rfl | rfl
      · exact ⟨f.sz, (hn _ (by simp)).bd _ rfl⟩
      · exact ⟨f.n, (hn _ (by simp)).bd _ rfl⟩
      · exact ⟨f.a, (hn _ (by simp)).bd _ rfl⟩
      · exact ⟨f.b, (hn _ (by simp)).bd _ rfl⟩
    · obtain ⟨h1, h2, h3, h4⟩ := (hd _ (List.mem_map_of_mem m)).bd r rfl
      have := f.row r m
      exact ⟨h1, h2, this.2.1, h3, this.2.2, h4⟩
  · rw [e] at e'; cases e'
def TE (e : Xn) : Prop := ∃ d, tells e cs1 = some d ∧ Sm 300 2 d
theorem te_bh {w f : Str} (hw : Sm 10 0 (.str w)) (hf : f ∈ (["form", "few", "twice", "base", "foot"] : List Str)) : TE (bh w f) := by
  refine ⟨.tuple [.str "harp", .str w, .str f], rfl, ?_⟩
  have fs : Sm 6 0 (.str f) := by
    simp only [List.mem_cons, List.not_mem_nil, or_false] at hf
    rcases hf with rfl | rfl | rfl | rfl | rfl <;> exact Sm.str (by decide +kernel) (by decide +kernel)
  exact ((SmAll.cons (Sm.str (s := "harp") (n := 6) (by decide +kernel) (by decide +kernel)) (SmAll.cons hw (SmAll.cons fs .nil))).tup).mono (by decide) (by decide)
theorem te_num {w : Str} {v lo hi : Int} {e : Xn} (hw : w ∈ (["round", "letters", "strings", "fingers", "reach"] : List Str)) (h0 : 0 ≤ hi) (h1 : hi ≤ 1000) (h : numF w v lo hi = some e) : TE e := by
  have ws : Sm 10 0 (.str w) := by
    simp only [List.mem_cons, List.not_mem_nil, or_false] at hw
    rcases hw with rfl | rfl | rfl | rfl | rfl <;> exact Sm.str (by decide +kernel) (by decide +kernel)
  unfold numF at h
  split at h
  · cases h; exact te_bh ws (by decide)
  · split at h
    · cases h
      exact ⟨.tuple [.str "large", .str w, .int hi], rfl, ((SmAll.cons (Sm.str (s := "large") (n := 6) (by decide +kernel) (by decide +kernel)) (SmAll.cons ws (SmAll.cons (Sm.int (i := hi) (by omega) (by omega)) .nil))).tup).mono (by decide) (by decide)⟩
    · cases h
theorem fault_tells {y : D} {e : Xn} (f : FinH y) (h : hFault y = some e) : TE e := by
  unfold hFault at h
  cases ef : isHarpF y with
  | false =>
    rw [if_neg (by rw [ef]; decide)] at h
    cases h
    exact te_bh (Sm.str (by decide +kernel) (by decide +kernel)) (by decide)
  | true =>
    obtain ⟨H, rfl, g⟩ := harpF_of ef
    have h2 : harpF' H = some e := by rw [← hFault_d ef]; exact (by unfold hFault; exact h)
    unfold harpF' at h2
    simp only [Option.or_eq_some_iff] at h2
    rcases h2 with h2 | ⟨_, h2 | ⟨_, h2 | ⟨_, h2 | ⟨_, h2 | ⟨_, h2⟩⟩⟩⟩⟩
    · exact te_num (by decide) (by decide) (by decide) h2
    · exact te_num (by decide) (by decide) (by decide) h2
    · unfold letF at h2
      obtain ⟨k, mk, q⟩ := List.exists_of_findSome?_eq_some h2
      have k01 := mem_count mk
      have mr : H.row k ∈ H.rows := by
        have h3 : k.toNat < H.rows.length := by have := k01.2; unfold Hrp.L at this; omega
        simp [Hrp.row, List.getD, h3]
      obtain ⟨n1, n2⟩ := f.nm H rfl ef _ mr
      have ws : Sm 10 0 (.str (H.row k).1) := Sm.str (strOk_wide n2) n1
      unfold rowF at q
      split at q
      · cases q; exact te_bh ws (by decide)
      · split at q
        · cases q; exact te_bh ws (by decide)
        · split at q
          · cases q; exact te_bh ws (by decide)
          · cases q
    · exact te_num (by decide) (by decide) (by decide) h2
    · exact te_num (by decide) (by decide) (by decide) h2
    · exact te_num (by decide) (by decide) (by decide) h2
theorem due_cases {y : D} (f : FinH y) : (hFault y = none ∧ dueH y = .tuple [.str "told", y] ∧ Sm 50000 6 (dueH y)) ∨ ∃ x, hFault y = some x ∧ tells x cs1 = some (dueH y) ∧ Sm 50000 6 (dueH y) := by
  cases e : hFault y with
  | none =>
    have ed : dueH y = .tuple [.str "told", y] := by unfold dueH; rw [e]
    refine .inl ⟨rfl, ed, ?_⟩
    rw [ed]
    exact ((SmAll.cons (Sm.str (s := "told") (n := 6) (by decide +kernel) (by decide +kernel)) (SmAll.cons f.sm .nil)).tup).mono (by decide) (by decide)
  | some x =>
    obtain ⟨d, h1, h2⟩ := fault_tells f e
    have ed : dueH y = d := by unfold dueH; rw [e]; show (tells x cs1).getD .none = d; rw [h1]; rfl
    exact .inr ⟨x, rfl, by rw [ed]; exact h1, by rw [ed]; exact h2.mono (by decide) (by decide)⟩
/-- one thing is asked, and is alike -/
theorem alike_step {i : Nat} {E : En} {ρ : Ev} {d : D} (hi : ∀ (P : Val → Prop) (Ex : Xn → Prop), P (.d d) → wVar i ρ P Ex) (f : FinH d) (hk : E.nx ρ) :
    wIfS (wTnot (wTv (wCall 2 Φ__law_alike (wCons (wRaised "told" [("BadHarp", "harp", ["where", "fault"]), ("TooLarge", "large", ["what", "limit"])] (wCall 1 Φ_checked_harp (wCons (wVar i) wNil))) (wCons (wCall 1 Φ__law_due (wCons (wVar i) wNil)) wNil))))) (wRet (wC (.bool false))) wSkip E ρ := by
  simp only [wIfS, wTnot, wTv, wCall, wCons, wRaised]
  refine hi _ _ ?_
  refine ⟨rfl, d, rfl, f.sh, ?_⟩
  unfold Or1
  rcases due_cases f with ⟨e1, e2, e3⟩ | ⟨x, e1, e2, e3⟩
  · rw [e1]
    dsimp only
    refine hi _ _ ?_
    refine ⟨rfl, d, rfl, f.sh, ?_⟩
    refine ⟨rfl, dueH d, by rw [e2], ⟨50000, 6, by decide, by decide, e3⟩, ?_⟩
    exact hk
  · rw [e1]
    dsimp only
    have e2' : tells x [("BadHarp", "harp", ["where", "fault"]), ("TooLarge", "large", ["what", "limit"])] = some (dueH d) := e2
    rw [e2']
    dsimp only
    refine hi _ _ ?_
    refine ⟨rfl, d, rfl, f.sh, ?_⟩
    refine ⟨rfl, dueH d, rfl, ⟨50000, 6, by decide, by decide, e3⟩, ?_⟩
    exact hk
end Pd

namespace Pd
open PySem PySem.Spec PyProof.Rows L2
theorem enumT : ∀ d ∈ enumD (signsD (Str.ofString "abcdefghij")), ∃ k : Int, ∃ c : Str, d = .tuple [.int k, .str c] ∧ 0 ≤ k ∧ k ≤ 20 ∧ c.length = 1 ∧ PyData.strOk c = true := by
  have h : (enumD (signsD (Str.ofString "abcdefghij"))).all (fun d => match d with
    | .tuple [.int k, .str c] => decide (0 ≤ k) && (decide (k ≤ 20) && (decide (c.length = 1) && PyData.strOk c))
    | _ => false) = true := by decide +kernel
  intro d m
  have := List.all_eq_true.mp h d m
  split at this
  · rename_i k c
    simp only [Bool.and_eq_true, decide_eq_true_eq] at this
    exact ⟨k, c, rfl, this.1, this.2.1, this.2.2.1, this.2.2.2⟩
  · cases this
theorem enumT_len : (enumD (signsD (Str.ofString "abcdefghij"))).length ≤ 10 := by decide +kernel
theorem great_end {ds : List D} {o1 o2 o3 o4 o5 o6 o7 o9 o10 o11 o12 : O} (hl : ds.length ≤ 10) (hd : ∀ d ∈ ds, GRow 100 d) :
    w_law_4 lawEnd [none, o1, o2, o3, o4, o5, o6, o7, some (.d (.tuple ds)), o9, o10, o11, o12] := by
  refine ⟨szr, ?_⟩
  show forW _ _ _ [.int 8, .int 9, .int 10] _
  refine forW_inv (fun l ρ => (∀ d ∈ l, ∃ k : Int, d = .int k) ∧ ∃ o11 o12, ρ = [none, o1, o2, o3, o4, o5, o6, o7, some (.d (.tuple ds)), o9, o10, o11, o12]) (fun d l ρ K ⟨hl', o11, o12, e⟩ hk => ?_) (fun ρ ⟨hl', o11, o12, e⟩ => ?_) _ _ ⟨by simp, _, _, rfl⟩
  · subst e
    rfl
  · subst e
    obtain ⟨k, rfl⟩ := hl' d List.mem_cons_self
    refine ⟨szr, ?_⟩
    have ok : OkayH 100 10 (.tuple [.int 24, .tuple (cutG ds none (some k)), .int 60, .int 5, .int 59]) := by
      refine .inl ⟨_, _, _, _, _, rfl, ?_, ?_, ?_⟩
      · simp only [List.mem_cons, List.not_mem_nil, or_false]
        rintro n (rfl | rfl | rfl | rfl) <;> exact gi (by decide) (by decide) (by decide)
      · unfold cutG
        rw [List.length_take, List.length_drop]
        omega
      · intro d m
        unfold cutG at m
        exact hd d (List.mem_of_mem_drop (List.mem_of_mem_take m))
    refine alike_step (i := 12) (ρ := [none, o1, o2, o3, o4, o5, o6, o7, some (.d (.tuple ds)), o9, o10, some (.d (.int k)), some (.d (.tuple [.int 24, .tuple (cutG ds none (some k)), .int 60, .int 5, .int 59]))]) (fun P Ex h => h) (ok.fin (by decide)) ?_
    exact hk _ ⟨fun d m => hl' d (List.mem_cons_of_mem _ m), _, _, rfl⟩
theorem rows_end {o2 o3 o4 o5 o6 o7 o8 o9 o10 o11 o12 : O} :
    w_law_5 lawEnd [none, some .bag, o2, o3, o4, o5, o6, o7, o8, o9, o10, o11, o12] := by
  refine ⟨szr, ?_⟩
  show lcW _ _ _ _ _ (enumD (signsD (Str.ofString "abcdefghij"))) []
  refine lcW_inv (fun l acc => (∀ d ∈ l, ∃ k : Int, ∃ c : Str, d = .tuple [.int k, .str c] ∧ 0 ≤ k ∧ k ≤ 20 ∧ c.length = 1 ∧ PyData.strOk c = true) ∧ acc.length + l.length ≤ 10 ∧ ∀ d ∈ acc, GRow 100 d) (fun d l acc K ⟨hd, hl, hg⟩ hk => ?_) (fun acc ⟨hd, hl, hg⟩ => ?_) _ _ ⟨enumT, by have := enumT_len; simpa using this, by simp⟩
  · obtain ⟨k, c, rfl, k0, k1, c1, co⟩ := hd _ List.mem_cons_self
    refine ⟨rfl, ?_⟩
    refine ⟨?_, ?_⟩
    · rw [c1]; decide
    refine ⟨rfl, 2, rfl, by decide, by decide, fun v v0 v1 => ?_⟩
    simp only [List.length_cons] at hl
    refine ⟨szr, hk _ ⟨fun d m => hd d (List.mem_cons_of_mem _ m), by rw [List.length_append, List.length_singleton]; omega, fun d m => ?_⟩⟩
    rcases List.mem_append.mp m with m | m
    · exact hg d m
    · rw [List.mem_singleton.mp m]
      exact g_row (by decide) ⟨by rw [len_app, c1]; decide, strOk_app (by decide +kernel) co, by omega, by omega, by omega, by omega⟩
  · simp only [List.length_nil, Nat.add_zero] at hl
    exact great_end hl hg
theorem things_end {E : En} {ds : List D} {o1 o2 o3 o5 o6 o7 o8 o9 o10 o11 o12 : O} (hs : ∀ y ∈ ds, FinH y) (hK : ∀ o7, E.nx [none, o1, o2, o3, some (.d (.list ds)), o5, o6, o7, o8, o9, o10, o11, o12]) :
    wFrz 4 (wFor (wItL (wVar 4)) (bName 7) (wIfS (wTnot (wTv (wCall 2 Φ__law_alike (wCons (wRaised "told" [("BadHarp", "harp", ["where", "fault"]), ("TooLarge", "large", ["what", "limit"])] (wCall 1 Φ_checked_harp (wCons (wVar 7) wNil))) (wCons (wCall 1 Φ__law_due (wCons (wVar 7) wNil)) wNil))))) (wRet (wC (.bool false))) wSkip)) E [none, o1, o2, o3, some (.own ds), o5, o6, o7, o8, o9, o10, o11, o12] := by
  show forW _ _ _ ds _
  refine forW_inv (fun ds' ρ => (∀ y ∈ ds', FinH y) ∧ ∃ o, ρ = [none, o1, o2, o3, some (.d (.list ds)), o5, o6, o, o8, o9, o10, o11, o12]) (fun d ds' ρ K ⟨hd, o, e⟩ hk => ?_) (fun ρ ⟨hd, o, e⟩ => ?_) _ _ ⟨hs, _, rfl⟩
  · subst e
    exact hK _
  · subst e
    exact alike_step (i := 7) (ρ := [none, o1, o2, o3, some (.d (.list ds)), o5, o6, some (.d d), o8, o9, o10, o11, o12]) (fun P Ex h => h) (hd d List.mem_cons_self) (hk _ ⟨fun y m => hd y (List.mem_cons_of_mem _ m), _, rfl⟩)
theorem Hrp.Drawn.bdd {H : Hrp} (h : H.Drawn 3 9) : BddH 1000 12 H := by
  have ok := h.ok
  refine ⟨fun i m => ?_, by intro e; have := ok.len0; rw [e] at this; simp at this, ok.len1, fun r m => ?_⟩
  · simp only [List.mem_cons, List.not_mem_nil, or_false] at m
    have := h.sz; have := ok.sz0; have := ok.n0; have := ok.n1; have := h.a0; have := h.a1; have := h.b0; have := h.b1
    rcases m with rfl | rfl | rfl | rfl <;> omega
  · have b := ok.base r m
    have f := ok.foot r m
    have n := ok.name r m
    exact ⟨n.1, n.2, b.1, b.2, f.1, by omega⟩
theorem lap_end {E : En} {H : Hrp} {o2 o4 o5 o6 o7 o8 o9 o10 o11 o12 : O} (hb : BddH 1000 12 H) (hK : ∀ o4 o5 o6 o7, E.nx [none, some .bag, o2, some (.d H.d), o4, o5, o6, o7, o8, o9, o10, o11, o12]) :
    w_law_3 E [none, some .bag, o2, some (.d H.d), o4, o5, o6, o7, o8, o9, o10, o11, o12] := by
  refine ⟨szr, ⟨by decide, by decide⟩, szr, ?_⟩
  refine lcW_inv (fun ds acc => (∀ y ∈ acc, FinH y) ∧ acc.length + ds.length ≤ 8 ∧ ∀ d ∈ ds, ∃ i : Int, d = .int i) (fun d ds acc K ⟨hy, hl, hi⟩ hk => ?_) (fun acc ⟨hy, hl, hi⟩ => ?_) _ _ ⟨by simp, by decide, fun d m => by
    obtain ⟨i, _, rfl⟩ := List.mem_map.mp m
    exact ⟨_, rfl⟩⟩
  · refine ⟨rfl, H, 1000, 12, rfl, by decide, by decide, by decide, hb, fun y ok => ?_⟩
    simp only [List.length_cons] at hl
    refine hk _ ⟨fun z m => ?_, by rw [List.length_append, List.length_singleton]; omega, fun d m => hi d (List.mem_cons_of_mem _ m)⟩
    rcases List.mem_append.mp m with m | m
    · exact hy z m
    · rw [List.mem_singleton.mp m]; exact ok.fin (by decide)
  · simp only [List.length_nil] at hl
    refine ⟨?_, ?_⟩
    · show ([H.d] : List D).length + acc.length ≤ sizeLine
      exact szl (by simp only [List.length_cons, List.length_nil]; omega)
    refine ⟨rfl, H, 1000, 12, rfl, by decide, by decide, by decide, hb, fun y ok => ?_⟩
    have s0 : FinH H.d := (okay_rows hb (by decide) (ds := H.rows.map rowD) (by rw [List.length_map]; have := hb.len; omega) (hb.rows_ok (by decide))).fin (by decide)
    have fin : ∀ z, FinH z → (([H.d] ++ acc : List D).length < sizeLine) ∧ wFrz 4 (wFor (wItL (wVar 4)) (bName 7) (wIfS (wTnot (wTv (wCall 2 Φ__law_alike (wCons (wRaised "told" [("BadHarp", "harp", ["where", "fault"]), ("TooLarge", "large", ["what", "limit"])] (wCall 1 Φ_checked_harp (wCons (wVar 7) wNil))) (wCons (wCall 1 Φ__law_due (wCons (wVar 7) wNil)) wNil))))) (wRet (wC (.bool false))) wSkip)) E [none, some .bag, o2, some (.d H.d), some (.own ([H.d] ++ acc ++ [z])), o5, some (.d y), o7, o8, o9, o10, o11, o12] := fun z sz => by
      refine ⟨szl1 (by simp only [List.length_append, List.length_cons, List.length_nil]; omega), things_end (fun y' m => ?_) fun _ => hK _ _ _ _⟩
      simp only [List.mem_append, List.mem_singleton] at m
      rcases m with (m | m) | m
      · rw [m]; exact s0
      · exact hy y' m
      · rw [m]; exact sz
    show w_law_1 E [none, some .bag, o2, some (.d H.d), some (.own ([H.d] ++ acc)), o5, some (.d y), o7, o8, o9, o10, o11, o12]
    refine ⟨rfl, y, rfl, (ok.fin (by decide)).sh, ?_⟩
    show (if isHarpF y = true then _ else _)
    cases e : isHarpF y with
    | false => exact fin y (ok.fin (by decide))
    | true =>
      obtain ⟨H', rfl, f⟩ := harpF_of e
      rw [if_pos rfl]
      refine ⟨szr, ?_⟩
      refine ⟨Nat.le_trans (Nat.min_le_right _ _) (by decide), ?_⟩
      have ee : PyData.eqv (.tuple (H'.rows.map rowD)) (.tuple []) = H'.rows.isEmpty := by cases H'.rows <;> rfl
      show (if (!PyData.eqv (.tuple (H'.rows.map rowD)) (.tuple [])) = true then _ else _)
      rw [ee]
      by_cases hz : H'.rows = []
      · rw [if_neg (by rw [hz]; decide)]
        exact fin _ (ok.fin (by decide))
      · rw [if_pos (by simpa using hz)]
        exact ⟨rfl, H', 1000 + 1, 12 + 1, rfl, by decide, by decide, by decide, ok.bdd e f hz, fun z oz => fin z (oz.fin (by decide))⟩
theorem v_law : w_law lawEnd (lawStart N_law) := by
  show w_law lawEnd [none, some .bag, none, none, none, none, none, none, none, none, none, none, none]
  unfold w_law
  refine ⟨⟨by decide, by decide⟩, szr, ?_⟩
  refine forW_inv (fun ds ρ => ∃ o2 o3 o4 o5 o6 o7, ρ = [none, some .bag, o2, o3, o4, o5, o6, o7, none, none, none, none, none]) (fun d ds ρ K ⟨o2, o3, o4, o5, o6, o7, e⟩ hk => ?_) (fun ρ ⟨o2, o3, o4, o5, o6, o7, e⟩ => ?_) _ _ ⟨_, _, _, _, _, _, rfl⟩
  · subst e
    exact rows_end
  · subst e
    refine ⟨rfl, 3, 9, rfl, by decide, by decide, by decide, by decide, fun H hd => ?_⟩
    exact lap_end hd.bdd fun o4 o5 o6 o7 => hk _ ⟨_, _, _, _, _, _, rfl⟩
end Pd

namespace Pd
open PySem PySem.Spec PyProof.Rows L2
theorem one_ref {x : Str} {mg : Str → Option Value} {a b : Addr} (h : mg x = some (.ref a)) (h2 : mg x = some (.ref b)) : a = b := by
  rw [h] at h2
  cases h2
  rfl
abbrev st__law_bag : Stmt := top 26
theorem sc__law_bag : FnScope ["script", "cell"] ["script"] (defScope st__law_bag) := ⟨rfl, rfl, rfl, by decide +kernel, rfl, by decide +kernel, by decide +kernel⟩
set_option maxHeartbeats 4000000 in
theorem all_mk {l : PySem.W.OpenLaw} {w : World} {K : PySem.W.Frag} {h : Heap} {mg : Str → Option Value} {fa : Addr} {ts : List Addr} {f_is_number f_is_index f_is_name f_is_sized f_is_tuple_of f_is_letter f_is_harp_form f_check_number f_check_letters f_checked_harp f__law_take f__law_some f__law_mixed f__law_alike f__law_is_int f__law_harp f__law_is_name f__law_is_form f__law_bound f__law_due f__law_bent f__law_raised f__law_bag f_law : Addr} {oc_is_number oc_is_index oc_is_name oc_is_sized oc_is_tuple_of oc_is_letter oc_is_harp_form oc_check_number oc_check_letters oc_checked_harp oc__law_take oc__law_some oc__law_mixed oc__law_alike oc__law_is_int oc__law_harp oc__law_is_name oc__law_is_form oc__law_bound oc__law_due oc__law_bent oc__law_raised oc__law_bag oc_law : Value} {kV_is_number kV_is_index kV_is_name kV_is_sized kV_is_tuple_of kV_is_letter kV_is_harp_form kV_check_number kV_check_letters kV_checked_harp kV__law_take kV__law_some kV__law_mixed kV__law_alike kV__law_is_int kV__law_harp kV__law_is_name kV__law_is_form kV__law_bound kV__law_due kV__law_bent kV__law_raised kV__law_bag kV_law : Value} {dc_is_number dc_is_index dc_is_name dc_is_sized dc_is_tuple_of dc_is_letter dc_is_harp_form dc_check_number dc_check_letters dc_checked_harp dc__law_take dc__law_some dc__law_mixed dc__law_alike dc__law_is_int dc__law_harp dc__law_is_name dc__law_is_form dc__law_bound dc__law_due dc__law_bent dc__law_raised dc__law_bag dc_law : Value} {pm_is_number pm_is_index pm_is_name pm_is_sized pm_is_tuple_of pm_is_letter pm_is_harp_form pm_check_number pm_check_letters pm_checked_harp pm__law_take pm__law_some pm__law_mixed pm__law_alike pm__law_is_int pm__law_harp pm__law_is_name pm__law_is_form pm__law_bound pm__law_due pm__law_bent pm__law_raised pm__law_bag pm_law : Value} {ct_is_number ct_is_index ct_is_name ct_is_sized ct_is_tuple_of ct_is_letter ct_is_harp_form ct_check_number ct_check_letters ct_checked_harp ct__law_take ct__law_some ct__law_mixed ct__law_alike ct__law_is_int ct__law_harp ct__law_is_name ct__law_is_form ct__law_bound ct__law_due ct__law_bent ct__law_raised ct__law_bag ct_law : Value} {od_is_number od_is_index od_is_name od_is_sized od_is_tuple_of od_is_letter od_is_harp_form od_check_number od_check_letters od_checked_harp od__law_take od__law_some od__law_mixed od__law_alike od__law_is_int od__law_harp od__law_is_name od__law_is_form od__law_bound od__law_due od__law_bent od__law_raised od__law_bag od_law : Option Addr} {an_is_number an_is_index an_is_name an_is_sized an_is_tuple_of an_is_letter an_is_harp_form an_check_number an_check_letters an_checked_harp an__law_take an__law_some an__law_mixed an__law_alike an__law_is_int an__law_harp an__law_is_name an__law_is_form an__law_bound an__law_due an__law_bent an__law_raised an__law_bag an_law : Option Addr} {sl_is_number sl_is_index sl_is_name sl_is_sized sl_is_tuple_of sl_is_letter sl_is_harp_form sl_check_number sl_check_letters sl_checked_harp sl__law_take sl__law_some sl__law_mixed sl__law_alike sl__law_is_int sl__law_harp sl__law_is_name sl__law_is_form sl__law_bound sl__law_due sl__law_bent sl__law_raised sl__law_bag sl_law : Array (Option Value)} {cd_is_number cd_is_index cd_is_name cd_is_sized cd_is_tuple_of cd_is_letter cd_is_harp_form cd_check_number cd_check_letters cd_checked_harp cd__law_take cd__law_some cd__law_mixed cd__law_alike cd__law_is_int cd__law_harp cd__law_is_name cd__law_is_form cd__law_bound cd__law_due cd__law_bent cd__law_raised cd__law_bag : Value} {cc_law pt_law : Addr} {C_BadHarp C_TooLarge : Addr} {xfI_BadHarp xcda_BadHarp xcc_BadHarp : Addr} {xq_BadHarp : Str} {xkV_BadHarp xdoc_BadHarp xpm_BadHarp xct_BadHarp xoc_BadHarp xccl_BadHarp xcl_BadHarp : Value} {xan_BadHarp xod_BadHarp xcdd_BadHarp xcld_BadHarp : Option Addr} {xosl_BadHarp xccs_BadHarp xcsl_BadHarp : Array (Option Value)} {xvs_BadHarp : Array Value} {xfile_BadHarp : Str} {xtf_BadHarp : Tok} {xcd_BadHarp : ClassData} {xfI_TooLarge xcda_TooLarge xcc_TooLarge : Addr} {xq_TooLarge : Str} {xkV_TooLarge xdoc_TooLarge xpm_TooLarge xct_TooLarge xoc_TooLarge xccl_TooLarge xcl_TooLarge : Value} {xan_TooLarge xod_TooLarge xcdd_TooLarge xcld_TooLarge : Option Addr} {xosl_TooLarge xccs_TooLarge xcsl_TooLarge : Array (Option Value)} {xvs_TooLarge : Array Value} {xfile_TooLarge : Str} {xtf_TooLarge : Tok} {xcd_TooLarge : ClassData} {u_LETTERS : Value} {u_MOST_FINGERS : Value} {u_MOST_LETTERS_forms : Value} {u_MOST_LETTERS_harps : Value} {u_MOST_REACH : Value} {u_MOST_ROUND : Value} {u_MOST_STRINGS : Value} {u_RESERVED : Value} (kin : K.In h) (G : h.Ns mainGlobals mg) (hfa : mg "law" = some (.ref fa)) (T : ∀ P ∈ ts, h.get? P = some tabO)
    (a_is_number : PySem.W.nsIn K mainGlobals "is_number" = some (some (.ref f_is_number)))
    (l_is_number : K.lookup f_is_number = some ⟨oc_is_number, od_is_number, .func (PySem.W.fnOf "is_number" "is_number" (defArgs st_is_number) (defBody st_is_number) (defScope st_is_number) .none kV_is_number dc_is_number pm_is_number an_is_number cd_is_number ct_is_number), sl_is_number⟩)
    (c_is_number : PySem.W.codeIn K cd_is_number "is_number" = true)
    (k_is_number : PySem.W.keepIn K (.ref f_is_number) = true)
    (a_is_index : PySem.W.nsIn K mainGlobals "is_index" = some (some (.ref f_is_index)))
    (l_is_index : K.lookup f_is_index = some ⟨oc_is_index, od_is_index, .func (PySem.W.fnOf "is_index" "is_index" (defArgs st_is_index) (defBody st_is_index) (defScope st_is_index) .none kV_is_index dc_is_index pm_is_index an_is_index cd_is_index ct_is_index), sl_is_index⟩)
    (c_is_index : PySem.W.codeIn K cd_is_index "is_index" = true)
    (k_is_index : PySem.W.keepIn K (.ref f_is_index) = true)
    (a_is_name : PySem.W.nsIn K mainGlobals "is_name" = some (some (.ref f_is_name)))
    (l_is_name : K.lookup f_is_name = some ⟨oc_is_name, od_is_name, .func (PySem.W.fnOf "is_name" "is_name" (defArgs st_is_name) (defBody st_is_name) (defScope st_is_name) .none kV_is_name dc_is_name pm_is_name an_is_name cd_is_name ct_is_name), sl_is_name⟩)
    (c_is_name : PySem.W.codeIn K cd_is_name "is_name" = true)
    (k_is_name : PySem.W.keepIn K (.ref f_is_name) = true)
    (a_is_sized : PySem.W.nsIn K mainGlobals "is_sized" = some (some (.ref f_is_sized)))
    (l_is_sized : K.lookup f_is_sized = some ⟨oc_is_sized, od_is_sized, .func (PySem.W.fnOf "is_sized" "is_sized" (defArgs st_is_sized) (defBody st_is_sized) (defScope st_is_sized) .none kV_is_sized dc_is_sized pm_is_sized an_is_sized cd_is_sized ct_is_sized), sl_is_sized⟩)
    (c_is_sized : PySem.W.codeIn K cd_is_sized "is_sized" = true)
    (k_is_sized : PySem.W.keepIn K (.ref f_is_sized) = true)
    (a_is_tuple_of : PySem.W.nsIn K mainGlobals "is_tuple_of" = some (some (.ref f_is_tuple_of)))
    (l_is_tuple_of : K.lookup f_is_tuple_of = some ⟨oc_is_tuple_of, od_is_tuple_of, .func (PySem.W.fnOf "is_tuple_of" "is_tuple_of" (defArgs st_is_tuple_of) (defBody st_is_tuple_of) (defScope st_is_tuple_of) .none kV_is_tuple_of dc_is_tuple_of pm_is_tuple_of an_is_tuple_of cd_is_tuple_of ct_is_tuple_of), sl_is_tuple_of⟩)
    (c_is_tuple_of : PySem.W.codeIn K cd_is_tuple_of "is_tuple_of" = true)
    (k_is_tuple_of : PySem.W.keepIn K (.ref f_is_tuple_of) = true)
    (a_is_letter : PySem.W.nsIn K mainGlobals "is_letter" = some (some (.ref f_is_letter)))
    (l_is_letter : K.lookup f_is_letter = some ⟨oc_is_letter, od_is_letter, .func (PySem.W.fnOf "is_letter" "is_letter" (defArgs st_is_letter) (defBody st_is_letter) (defScope st_is_letter) .none kV_is_letter dc_is_letter pm_is_letter an_is_letter cd_is_letter ct_is_letter), sl_is_letter⟩)
    (c_is_letter : PySem.W.codeIn K cd_is_letter "is_letter" = true)
    (k_is_letter : PySem.W.keepIn K (.ref f_is_letter) = true)
    (a_is_harp_form : PySem.W.nsIn K mainGlobals "is_harp_form" = some (some (.ref f_is_harp_form)))
    (l_is_harp_form : K.lookup f_is_harp_form = some ⟨oc_is_harp_form, od_is_harp_form, .func (PySem.W.fnOf "is_harp_form" "is_harp_form" (defArgs st_is_harp_form) (defBody st_is_harp_form) (defScope st_is_harp_form) .none kV_is_harp_form dc_is_harp_form pm_is_harp_form an_is_harp_form cd_is_harp_form ct_is_harp_form), sl_is_harp_form⟩)
    (c_is_harp_form : PySem.W.codeIn K cd_is_harp_form "is_harp_form" = true)
    (k_is_harp_form : PySem.W.keepIn K (.ref f_is_harp_form) = true)
    (a_check_number : PySem.W.nsIn K mainGlobals "check_number" = some (some (.ref f_check_number)))
    (l_check_number : K.lookup f_check_number = some ⟨oc_check_number, od_check_number, .func (PySem.W.fnOf "check_number" "check_number" (defArgs st_check_number) (defBody st_check_number) (defScope st_check_number) .none kV_check_number dc_check_number pm_check_number an_check_number cd_check_number ct_check_number), sl_check_number⟩)
    (c_check_number : PySem.W.codeIn K cd_check_number "check_number" = true)
    (k_check_number : PySem.W.keepIn K (.ref f_check_number) = true)
    (a_check_letters : PySem.W.nsIn K mainGlobals "check_letters" = some (some (.ref f_check_letters)))
    (l_check_letters : K.lookup f_check_letters = some ⟨oc_check_letters, od_check_letters, .func (PySem.W.fnOf "check_letters" "check_letters" (defArgs st_check_letters) (defBody st_check_letters) (defScope st_check_letters) .none kV_check_letters dc_check_letters pm_check_letters an_check_letters cd_check_letters ct_check_letters), sl_check_letters⟩)
    (c_check_letters : PySem.W.codeIn K cd_check_letters "check_letters" = true)
    (k_check_letters : PySem.W.keepIn K (.ref f_check_letters) = true)
    (a_checked_harp : PySem.W.nsIn K mainGlobals "checked_harp" = some (some (.ref f_checked_harp)))
    (l_checked_harp : K.lookup f_checked_harp = some ⟨oc_checked_harp, od_checked_harp, .func (PySem.W.fnOf "checked_harp" "checked_harp" (defArgs st_checked_harp) (defBody st_checked_harp) (defScope st_checked_harp) .none kV_checked_harp dc_checked_harp pm_checked_harp an_checked_harp cd_checked_harp ct_checked_harp), sl_checked_harp⟩)
    (c_checked_harp : PySem.W.codeIn K cd_checked_harp "checked_harp" = true)
    (k_checked_harp : PySem.W.keepIn K (.ref f_checked_harp) = true)
    (a__law_take : PySem.W.nsIn K mainGlobals "_law_take" = some (some (.ref f__law_take)))
    (l__law_take : K.lookup f__law_take = some ⟨oc__law_take, od__law_take, .func (PySem.W.fnOf "_law_take" "_law_take" (defArgs st__law_take) (defBody st__law_take) (defScope st__law_take) .none kV__law_take dc__law_take pm__law_take an__law_take cd__law_take ct__law_take), sl__law_take⟩)
    (c__law_take : PySem.W.codeIn K cd__law_take "_law_take" = true)
    (k__law_take : PySem.W.keepIn K (.ref f__law_take) = true)
    (a__law_some : PySem.W.nsIn K mainGlobals "_law_some" = some (some (.ref f__law_some)))
    (l__law_some : K.lookup f__law_some = some ⟨oc__law_some, od__law_some, .func (PySem.W.fnOf "_law_some" "_law_some" (defArgs st__law_some) (defBody st__law_some) (defScope st__law_some) .none kV__law_some dc__law_some pm__law_some an__law_some cd__law_some ct__law_some), sl__law_some⟩)
    (c__law_some : PySem.W.codeIn K cd__law_some "_law_some" = true)
    (k__law_some : PySem.W.keepIn K (.ref f__law_some) = true)
    (a__law_mixed : PySem.W.nsIn K mainGlobals "_law_mixed" = some (some (.ref f__law_mixed)))
    (l__law_mixed : K.lookup f__law_mixed = some ⟨oc__law_mixed, od__law_mixed, .func (PySem.W.fnOf "_law_mixed" "_law_mixed" (defArgs st__law_mixed) (defBody st__law_mixed) (defScope st__law_mixed) .none kV__law_mixed dc__law_mixed pm__law_mixed an__law_mixed cd__law_mixed ct__law_mixed), sl__law_mixed⟩)
    (c__law_mixed : PySem.W.codeIn K cd__law_mixed "_law_mixed" = true)
    (k__law_mixed : PySem.W.keepIn K (.ref f__law_mixed) = true)
    (a__law_alike : PySem.W.nsIn K mainGlobals "_law_alike" = some (some (.ref f__law_alike)))
    (l__law_alike : K.lookup f__law_alike = some ⟨oc__law_alike, od__law_alike, .func (PySem.W.fnOf "_law_alike" "_law_alike" (defArgs st__law_alike) (defBody st__law_alike) (defScope st__law_alike) .none kV__law_alike dc__law_alike pm__law_alike an__law_alike cd__law_alike ct__law_alike), sl__law_alike⟩)
    (c__law_alike : PySem.W.codeIn K cd__law_alike "_law_alike" = true)
    (k__law_alike : PySem.W.keepIn K (.ref f__law_alike) = true)
    (a__law_is_int : PySem.W.nsIn K mainGlobals "_law_is_int" = some (some (.ref f__law_is_int)))
    (l__law_is_int : K.lookup f__law_is_int = some ⟨oc__law_is_int, od__law_is_int, .func (PySem.W.fnOf "_law_is_int" "_law_is_int" (defArgs st__law_is_int) (defBody st__law_is_int) (defScope st__law_is_int) .none kV__law_is_int dc__law_is_int pm__law_is_int an__law_is_int cd__law_is_int ct__law_is_int), sl__law_is_int⟩)
    (c__law_is_int : PySem.W.codeIn K cd__law_is_int "_law_is_int" = true)
    (k__law_is_int : PySem.W.keepIn K (.ref f__law_is_int) = true)
    (a__law_harp : PySem.W.nsIn K mainGlobals "_law_harp" = some (some (.ref f__law_harp)))
    (l__law_harp : K.lookup f__law_harp = some ⟨oc__law_harp, od__law_harp, .func (PySem.W.fnOf "_law_harp" "_law_harp" (defArgs st__law_harp) (defBody st__law_harp) (defScope st__law_harp) .none kV__law_harp dc__law_harp pm__law_harp an__law_harp cd__law_harp ct__law_harp), sl__law_harp⟩)
    (c__law_harp : PySem.W.codeIn K cd__law_harp "_law_harp" = true)
    (k__law_harp : PySem.W.keepIn K (.ref f__law_harp) = true)
    (a__law_is_name : PySem.W.nsIn K mainGlobals "_law_is_name" = some (some (.ref f__law_is_name)))
    (l__law_is_name : K.lookup f__law_is_name = some ⟨oc__law_is_name, od__law_is_name, .func (PySem.W.fnOf "_law_is_name" "_law_is_name" (defArgs st__law_is_name) (defBody st__law_is_name) (defScope st__law_is_name) .none kV__law_is_name dc__law_is_name pm__law_is_name an__law_is_name cd__law_is_name ct__law_is_name), sl__law_is_name⟩)
    (c__law_is_name : PySem.W.codeIn K cd__law_is_name "_law_is_name" = true)
    (k__law_is_name : PySem.W.keepIn K (.ref f__law_is_name) = true)
    (a__law_is_form : PySem.W.nsIn K mainGlobals "_law_is_form" = some (some (.ref f__law_is_form)))
    (l__law_is_form : K.lookup f__law_is_form = some ⟨oc__law_is_form, od__law_is_form, .func (PySem.W.fnOf "_law_is_form" "_law_is_form" (defArgs st__law_is_form) (defBody st__law_is_form) (defScope st__law_is_form) .none kV__law_is_form dc__law_is_form pm__law_is_form an__law_is_form cd__law_is_form ct__law_is_form), sl__law_is_form⟩)
    (c__law_is_form : PySem.W.codeIn K cd__law_is_form "_law_is_form" = true)
    (k__law_is_form : PySem.W.keepIn K (.ref f__law_is_form) = true)
    (a__law_bound : PySem.W.nsIn K mainGlobals "_law_bound" = some (some (.ref f__law_bound)))
    (l__law_bound : K.lookup f__law_bound = some ⟨oc__law_bound, od__law_bound, .func (PySem.W.fnOf "_law_bound" "_law_bound" (defArgs st__law_bound) (defBody st__law_bound) (defScope st__law_bound) .none kV__law_bound dc__law_bound pm__law_bound an__law_bound cd__law_bound ct__law_bound), sl__law_bound⟩)
    (c__law_bound : PySem.W.codeIn K cd__law_bound "_law_bound" = true)
    (k__law_bound : PySem.W.keepIn K (.ref f__law_bound) = true)
    (a__law_due : PySem.W.nsIn K mainGlobals "_law_due" = some (some (.ref f__law_due)))
    (l__law_due : K.lookup f__law_due = some ⟨oc__law_due, od__law_due, .func (PySem.W.fnOf "_law_due" "_law_due" (defArgs st__law_due) (defBody st__law_due) (defScope st__law_due) .none kV__law_due dc__law_due pm__law_due an__law_due cd__law_due ct__law_due), sl__law_due⟩)
    (c__law_due : PySem.W.codeIn K cd__law_due "_law_due" = true)
    (k__law_due : PySem.W.keepIn K (.ref f__law_due) = true)
    (a__law_bent : PySem.W.nsIn K mainGlobals "_law_bent" = some (some (.ref f__law_bent)))
    (l__law_bent : K.lookup f__law_bent = some ⟨oc__law_bent, od__law_bent, .func (PySem.W.fnOf "_law_bent" "_law_bent" (defArgs st__law_bent) (defBody st__law_bent) (defScope st__law_bent) .none kV__law_bent dc__law_bent pm__law_bent an__law_bent cd__law_bent ct__law_bent), sl__law_bent⟩)
    (c__law_bent : PySem.W.codeIn K cd__law_bent "_law_bent" = true)
    (k__law_bent : PySem.W.keepIn K (.ref f__law_bent) = true)
    (a__law_raised : PySem.W.nsIn K mainGlobals "_law_raised" = some (some (.ref f__law_raised)))
    (l__law_raised : K.lookup f__law_raised = some ⟨oc__law_raised, od__law_raised, .func (PySem.W.fnOf "_law_raised" "_law_raised" (defArgs st__law_raised) (defBody st__law_raised) (defScope st__law_raised) .none kV__law_raised dc__law_raised pm__law_raised an__law_raised cd__law_raised ct__law_raised), sl__law_raised⟩)
    (c__law_raised : PySem.W.codeIn K cd__law_raised "_law_raised" = true)
    (k__law_raised : PySem.W.keepIn K (.ref f__law_raised) = true)
    (a__law_bag : PySem.W.nsIn K mainGlobals "_law_bag" = some (some (.ref f__law_bag)))
    (l__law_bag : K.lookup f__law_bag = some ⟨oc__law_bag, od__law_bag, .func (PySem.W.fnOf "_law_bag" "_law_bag" (defArgs st__law_bag) (defBody st__law_bag) (defScope st__law_bag) .none kV__law_bag dc__law_bag pm__law_bag an__law_bag cd__law_bag ct__law_bag), sl__law_bag⟩)
    (c__law_bag : PySem.W.codeIn K cd__law_bag "_law_bag" = true)
    (k__law_bag : PySem.W.keepIn K (.ref f__law_bag) = true)
    (a_law : PySem.W.nsIn K mainGlobals "law" = some (some (.ref f_law)))
    (l_law : K.lookup f_law = some ⟨oc_law, od_law, .func (PySem.W.fnOf "law" "law" (defArgs st_law) (defBody st_law) (defScope st_law) .none kV_law dc_law pm_law an_law (.ref cc_law) ct_law), sl_law⟩)
    (c_law : PySem.W.codeIn K (.ref cc_law) "law" = true)
    (k_law : PySem.W.keepIn K (.ref f_law) = true)
    (h_law : PySem.W.codeHdIn K cc_law pt_law = true)
    (n_law : K.lookup pt_law = none)
    (m_law : pt_law ∈ ts)
    (aC_BadHarp : PySem.W.nsIn K mainGlobals "BadHarp" = some (some (.ref C_BadHarp)))
    (kC_BadHarp : PySem.W.keepIn K (.ref C_BadHarp) = true)
    (bC_BadHarp : PySem.W.subIn K (.ref C_BadHarp) (.type "BaseException") = some true)
    (tC_BadHarp : PySem.W.typeIn K (.ref C_BadHarp) = some (.type "type"))
    (iC_BadHarp : PySem.W.isClsIn K C_BadHarp = true)
    (sC_BadHarp : PySem.W.subIn K (.ref C_BadHarp) (.ref C_BadHarp) = some true)
    (aC_TooLarge : PySem.W.nsIn K mainGlobals "TooLarge" = some (some (.ref C_TooLarge)))
    (kC_TooLarge : PySem.W.keepIn K (.ref C_TooLarge) = true)
    (bC_TooLarge : PySem.W.subIn K (.ref C_TooLarge) (.type "BaseException") = some true)
    (tC_TooLarge : PySem.W.typeIn K (.ref C_TooLarge) = some (.type "type"))
    (iC_TooLarge : PySem.W.isClsIn K C_TooLarge = true)
    (sC_TooLarge : PySem.W.subIn K (.ref C_TooLarge) (.ref C_TooLarge) = some true)
    (sP_BadHarp_TooLarge : PySem.W.subIn K (.ref C_BadHarp) (.ref C_TooLarge) = some false)
    (sP_TooLarge_BadHarp : PySem.W.subIn K (.ref C_TooLarge) (.ref C_BadHarp) = some false)
    (xF_BadHarp : xfB K C_BadHarp = true)
    (xF_TooLarge : xfB K C_TooLarge = true)
    (nF_BadHarp_fault : PySem.W.findIn K (.ref C_BadHarp) "fault" = some none)
    (nF_BadHarp_where : PySem.W.findIn K (.ref C_BadHarp) "where" = some none)
    (nF_TooLarge_limit : PySem.W.findIn K (.ref C_TooLarge) "limit" = some none)
    (nF_TooLarge_what : PySem.W.findIn K (.ref C_TooLarge) "what" = some none)
    (zz_third : PySem.W.nsIn K cStatics "thirdparty.any" = some none)
    (zz_super : PySem.W.nsIn K mainGlobals "super" = some none)
    (zz_top : (l.prog.main.scope.names.lookup ("super" : Str)).isSome = false)
    (fX_BadHarp : PySem.W.findIn K (.ref C_BadHarp) "__init__" = some (some (.ref xfI_BadHarp)))
    (lX_BadHarp : K.lookup xfI_BadHarp = some ⟨xoc_BadHarp, xod_BadHarp, .func (PySem.W.ksFn "__init__" xq_BadHarp (defArgs si_BadHarp) (defBody si_BadHarp) (defScope si_BadHarp) .none xkV_BadHarp xdoc_BadHarp xpm_BadHarp xan_BadHarp (.ref xcda_BadHarp) xct_BadHarp xcc_BadHarp), xosl_BadHarp⟩)
    (cX_BadHarp : PySem.W.codeIn K (.ref xcda_BadHarp) xq_BadHarp = true)
    (tX_BadHarp : PySem.W.typeIn K (.ref xfI_BadHarp) = some (.type "function"))
    (dX_BadHarp : K.lookup xcda_BadHarp = some ⟨xccl_BadHarp, xcdd_BadHarp, .fields xvs_BadHarp, xccs_BadHarp⟩)
    (vX_BadHarp : xvs_BadHarp[2]? = some (.str xfile_BadHarp xtf_BadHarp))
    (eX_BadHarp : ((l.prog.main.file : Str) == xfile_BadHarp) = true)
    (gX_BadHarp : K.lookup xcc_BadHarp = some ⟨xcl_BadHarp, xcld_BadHarp, .cell (some (.ref C_BadHarp)), xcsl_BadHarp⟩)
    (oX_BadHarp : PySem.W.clsIn K C_BadHarp = some xcd_BadHarp)
    (rX_BadHarp : PySem.HandSPX.refsVE xcd_BadHarp.mro = true)
    (hX_BadHarp : xcd_BadHarp.hasDict = true)
    (iX_BadHarp : PySem.W.excInitIn K C_BadHarp bmVE "ValueError.__new__" = true)
    (wX_BadHarp : PySem.W.subIn K (.ref C_BadHarp) (.type "ValueError") = some true)
    (mX_BadHarp : PySem.W.mroIn K C_BadHarp (.ref C_BadHarp) = some true)
    (sX_BadHarp : PySem.W.ks_superIn K C_BadHarp C_BadHarp "__init__" = some (some (.builtin "ValueError.__init__")))
    (aX_BadHarp : PySem.W.findIn K (.ref C_BadHarp) "__setattr__" = some (some (.builtin "object.__setattr__")))
    (fX_TooLarge : PySem.W.findIn K (.ref C_TooLarge) "__init__" = some (some (.ref xfI_TooLarge)))
    (lX_TooLarge : K.lookup xfI_TooLarge = some ⟨xoc_TooLarge, xod_TooLarge, .func (PySem.W.ksFn "__init__" xq_TooLarge (defArgs si_TooLarge) (defBody si_TooLarge) (defScope si_TooLarge) .none xkV_TooLarge xdoc_TooLarge xpm_TooLarge xan_TooLarge (.ref xcda_TooLarge) xct_TooLarge xcc_TooLarge), xosl_TooLarge⟩)
    (cX_TooLarge : PySem.W.codeIn K (.ref xcda_TooLarge) xq_TooLarge = true)
    (tX_TooLarge : PySem.W.typeIn K (.ref xfI_TooLarge) = some (.type "function"))
    (dX_TooLarge : K.lookup xcda_TooLarge = some ⟨xccl_TooLarge, xcdd_TooLarge, .fields xvs_TooLarge, xccs_TooLarge⟩)
    (vX_TooLarge : xvs_TooLarge[2]? = some (.str xfile_TooLarge xtf_TooLarge))
    (eX_TooLarge : ((l.prog.main.file : Str) == xfile_TooLarge) = true)
    (gX_TooLarge : K.lookup xcc_TooLarge = some ⟨xcl_TooLarge, xcld_TooLarge, .cell (some (.ref C_TooLarge)), xcsl_TooLarge⟩)
    (oX_TooLarge : PySem.W.clsIn K C_TooLarge = some xcd_TooLarge)
    (rX_TooLarge : PySem.HandSPX.refsVE xcd_TooLarge.mro = true)
    (hX_TooLarge : xcd_TooLarge.hasDict = true)
    (iX_TooLarge : PySem.W.excInitIn K C_TooLarge bmVE "ValueError.__new__" = true)
    (wX_TooLarge : PySem.W.subIn K (.ref C_TooLarge) (.type "ValueError") = some true)
    (mX_TooLarge : PySem.W.mroIn K C_TooLarge (.ref C_TooLarge) = some true)
    (sX_TooLarge : PySem.W.ks_superIn K C_TooLarge C_TooLarge "__init__" = some (some (.builtin "ValueError.__init__")))
    (aX_TooLarge : PySem.W.findIn K (.ref C_TooLarge) "__setattr__" = some (some (.builtin "object.__setattr__")))
    (gV_LETTERS : PySem.W.nsIn K mainGlobals "LETTERS" = some (some u_LETTERS))
    (gW_LETTERS : valD K 4 u_LETTERS = some (.str "abcdefghijklmnopqrstuvwxyz"))
    (gV_MOST_FINGERS : PySem.W.nsIn K mainGlobals "MOST_FINGERS" = some (some u_MOST_FINGERS))
    (gW_MOST_FINGERS : valD K 4 u_MOST_FINGERS = some (.int 5))
    (gV_MOST_LETTERS_forms : PySem.W.nsIn K mainGlobals "MOST_LETTERS_forms" = some (some u_MOST_LETTERS_forms))
    (gW_MOST_LETTERS_forms : valD K 4 u_MOST_LETTERS_forms = some (.int 8))
    (gV_MOST_LETTERS_harps : PySem.W.nsIn K mainGlobals "MOST_LETTERS_harps" = some (some u_MOST_LETTERS_harps))
    (gW_MOST_LETTERS_harps : valD K 4 u_MOST_LETTERS_harps = some (.int 9))
    (gV_MOST_REACH : PySem.W.nsIn K mainGlobals "MOST_REACH" = some (some u_MOST_REACH))
    (gW_MOST_REACH : valD K 4 u_MOST_REACH = some (.int 59))
    (gV_MOST_ROUND : PySem.W.nsIn K mainGlobals "MOST_ROUND" = some (some u_MOST_ROUND))
    (gW_MOST_ROUND : valD K 4 u_MOST_ROUND = some (.int 24))
    (gV_MOST_STRINGS : PySem.W.nsIn K mainGlobals "MOST_STRINGS" = some (some u_MOST_STRINGS))
    (gW_MOST_STRINGS : valD K 4 u_MOST_STRINGS = some (.int 60))
    (gV_RESERVED : PySem.W.nsIn K mainGlobals "RESERVED" = some (some u_RESERVED))
    (gW_RESERVED : valD K 4 u_RESERVED = some (.tuple [(.str "hands"), (.str "left"), (.str "letter"), (.str "note"), (.str "right"), (.str "round"), (.str "strings"), (.str "ticks")]))
    (z_abs : PySem.W.nsIn K mainGlobals "abs" = some none)
    (z_all : PySem.W.nsIn K mainGlobals "all" = some none)
    (z_bool : PySem.W.nsIn K mainGlobals "bool" = some none)
    (z_enumerate : PySem.W.nsIn K mainGlobals "enumerate" = some none)
    (z_int : PySem.W.nsIn K mainGlobals "int" = some none)
    (z_isinstance : PySem.W.nsIn K mainGlobals "isinstance" = some none)
    (z_len : PySem.W.nsIn K mainGlobals "len" = some none)
    (z_list : PySem.W.nsIn K mainGlobals "list" = some none)
    (z_range : PySem.W.nsIn K mainGlobals "range" = some none)
    (z_repr : PySem.W.nsIn K mainGlobals "repr" = some none)
    (z_sorted : PySem.W.nsIn K mainGlobals "sorted" = some none)
    (z_str : PySem.W.nsIn K mainGlobals "str" = some none)
    (z_tuple : PySem.W.nsIn K mainGlobals "tuple" = some none)
    (z_zip : PySem.W.nsIn K mainGlobals "zip" = some none) :
    LawAtG l w K 18 63 "script" mg fa h := by
  obtain rfl : fa = f_law := one_ref hfa (PySem.W.mg_of kin G a_law)
  have B : Bs mg := ⟨PySem.W.mg_none_of kin G z_all, PySem.W.mg_none_of kin G z_bool, PySem.W.mg_none_of kin G z_enumerate, PySem.W.mg_none_of kin G z_int, PySem.W.mg_none_of kin G z_isinstance, PySem.W.mg_none_of kin G z_len, PySem.W.mg_none_of kin G z_list, PySem.W.mg_none_of kin G z_range, PySem.W.mg_none_of kin G z_repr, PySem.W.mg_none_of kin G z_sorted, PySem.W.mg_none_of kin G z_str, PySem.W.mg_none_of kin G z_tuple, PySem.W.mg_none_of kin G z_zip⟩
  have F_is_number := fun_mk (st := st_is_number) l_is_number c_is_number k_is_number
  have b_is_number := F_is_number.binds (ps := ["thing"]) fun _ _ _ _ _ _ us hl => match us, hl with | [_], _ => rfl
  have g_is_number := PySem.W.mg_of kin G a_is_number
  have F_is_index := fun_mk (st := st_is_index) l_is_index c_is_index k_is_index
  have b_is_index := F_is_index.binds (ps := ["thing"]) fun _ _ _ _ _ _ us hl => match us, hl with | [_], _ => rfl
  have g_is_index := PySem.W.mg_of kin G a_is_index
  have F_is_name := fun_mk (st := st_is_name) l_is_name c_is_name k_is_name
  have b_is_name := F_is_name.binds (ps := ["thing"]) fun _ _ _ _ _ _ us hl => match us, hl with | [_], _ => rfl
  have g_is_name := PySem.W.mg_of kin G a_is_name
  have F_is_sized := fun_mk (st := st_is_sized) l_is_sized c_is_sized k_is_sized
  have b_is_sized := F_is_sized.binds (ps := ["thing", "many"]) fun _ _ _ _ _ _ us hl => match us, hl with | [_, _], _ => rfl
  have g_is_sized := PySem.W.mg_of kin G a_is_sized
  have F_is_tuple_of := fun_mk (st := st_is_tuple_of) l_is_tuple_of c_is_tuple_of k_is_tuple_of
  have b_is_tuple_of := F_is_tuple_of.binds (ps := ["thing", "is_one"]) fun _ _ _ _ _ _ us hl => match us, hl with | [_, _], _ => rfl
  have g_is_tuple_of := PySem.W.mg_of kin G a_is_tuple_of
  have F_is_letter := fun_mk (st := st_is_letter) l_is_letter c_is_letter k_is_letter
  have b_is_letter := F_is_letter.binds (ps := ["thing"]) fun _ _ _ _ _ _ us hl => match us, hl with | [_], _ => rfl
  have g_is_letter := PySem.W.mg_of kin G a_is_letter
  have F_is_harp_form := fun_mk (st := st_is_harp_form) l_is_harp_form c_is_harp_form k_is_harp_form
  have b_is_harp_form := F_is_harp_form.binds (ps := ["thing"]) fun _ _ _ _ _ _ us hl => match us, hl with | [_], _ => rfl
  have g_is_harp_form := PySem.W.mg_of kin G a_is_harp_form
  have F_check_number := fun_mk (st := st_check_number) l_check_number c_check_number k_check_number
  have b_check_number := F_check_number.binds (ps := ["word", "number", "least", "most"]) fun _ _ _ _ _ _ us hl => match us, hl with | [_, _, _, _], _ => rfl
  have g_check_number := PySem.W.mg_of kin G a_check_number
  have F_check_letters := fun_mk (st := st_check_letters) l_check_letters c_check_letters k_check_letters
  have b_check_letters := F_check_letters.binds (ps := ["harp"]) fun _ _ _ _ _ _ us hl => match us, hl with | [_], _ => rfl
  have g_check_letters := PySem.W.mg_of kin G a_check_letters
  have F_checked_harp := fun_mk (st := st_checked_harp) l_checked_harp c_checked_harp k_checked_harp
  have b_checked_harp := F_checked_harp.binds (ps := ["thing"]) fun _ _ _ _ _ _ us hl => match us, hl with | [_], _ => rfl
  have g_checked_harp := PySem.W.mg_of kin G a_checked_harp
  have F__law_take := fun_mk (st := st__law_take) l__law_take c__law_take k__law_take
  have b__law_take := F__law_take.binds (ps := ["bag", "many"]) fun _ _ _ _ _ _ us hl => match us, hl with | [_, _], _ => rfl
  have g__law_take := PySem.W.mg_of kin G a__law_take
  have F__law_some := fun_mk (st := st__law_some) l__law_some c__law_some k__law_some
  have b__law_some := F__law_some.binds (ps := ["bag", "things"]) fun _ _ _ _ _ _ us hl => match us, hl with | [_, _], _ => rfl
  have g__law_some := PySem.W.mg_of kin G a__law_some
  have F__law_mixed := fun_mk (st := st__law_mixed) l__law_mixed c__law_mixed k__law_mixed
  have b__law_mixed := F__law_mixed.binds (ps := ["bag", "things"]) fun _ _ _ _ _ _ us hl => match us, hl with | [_, _], _ => rfl
  have g__law_mixed := PySem.W.mg_of kin G a__law_mixed
  have F__law_alike := fun_mk (st := st__law_alike) l__law_alike c__law_alike k__law_alike
  have b__law_alike := F__law_alike.binds (ps := ["found", "due"]) fun _ _ _ _ _ _ us hl => match us, hl with | [_, _], _ => rfl
  have g__law_alike := PySem.W.mg_of kin G a__law_alike
  have F__law_is_int := fun_mk (st := st__law_is_int) l__law_is_int c__law_is_int k__law_is_int
  have b__law_is_int := F__law_is_int.binds (ps := ["thing"]) fun _ _ _ _ _ _ us hl => match us, hl with | [_], _ => rfl
  have g__law_is_int := PySem.W.mg_of kin G a__law_is_int
  have F__law_harp := fun_mk (st := st__law_harp) l__law_harp c__law_harp k__law_harp
  have b__law_harp := F__law_harp.binds (ps := ["bag", "most_letters", "most_strings"]) fun _ _ _ _ _ _ us hl => match us, hl with | [_, _, _], _ => rfl
  have g__law_harp := PySem.W.mg_of kin G a__law_harp
  have F__law_is_name := fun_mk (st := st__law_is_name) l__law_is_name c__law_is_name k__law_is_name
  have b__law_is_name := F__law_is_name.binds (ps := ["thing"]) fun _ _ _ _ _ _ us hl => match us, hl with | [_], _ => rfl
  have g__law_is_name := PySem.W.mg_of kin G a__law_is_name
  have F__law_is_form := fun_mk (st := st__law_is_form) l__law_is_form c__law_is_form k__law_is_form
  have b__law_is_form := F__law_is_form.binds (ps := ["thing"]) fun _ _ _ _ _ _ us hl => match us, hl with | [_], _ => rfl
  have g__law_is_form := PySem.W.mg_of kin G a__law_is_form
  have F__law_bound := fun_mk (st := st__law_bound) l__law_bound c__law_bound k__law_bound
  have b__law_bound := F__law_bound.binds (ps := ["word", "number", "least", "most"]) fun _ _ _ _ _ _ us hl => match us, hl with | [_, _, _, _], _ => rfl
  have g__law_bound := PySem.W.mg_of kin G a__law_bound
  have F__law_due := fun_mk (st := st__law_due) l__law_due c__law_due k__law_due
  have b__law_due := F__law_due.binds (ps := ["thing"]) fun _ _ _ _ _ _ us hl => match us, hl with | [_], _ => rfl
  have g__law_due := PySem.W.mg_of kin G a__law_due
  have F__law_bent := fun_mk (st := st__law_bent) l__law_bent c__law_bent k__law_bent
  have b__law_bent := F__law_bent.binds (ps := ["bag", "harp"]) fun _ _ _ _ _ _ us hl => match us, hl with | [_, _], _ => rfl
  have g__law_bent := PySem.W.mg_of kin G a__law_bent
  have F__law_raised := fun_mk (st := st__law_raised) l__law_raised c__law_raised k__law_raised
  have b__law_raised := F__law_raised.binds (ps := ["act"]) fun _ _ _ _ _ _ us hl => match us, hl with | [_], _ => rfl
  have g__law_raised := PySem.W.mg_of kin G a__law_raised
  have F__law_bag := fun_mk (st := st__law_bag) l__law_bag c__law_bag k__law_bag
  have b__law_bag := F__law_bag.binds (ps := ["script"]) fun _ _ _ _ _ _ us hl => match us, hl with | [_], _ => rfl
  have g__law_bag := PySem.W.mg_of kin G a__law_bag
  have F_law := fun_mk (st := st_law) l_law c_law k_law
  have b_law := F_law.binds (ps := ["script"]) fun _ _ _ _ _ _ us hl => match us, hl with | [_], _ => rfl
  have g_law := PySem.W.mg_of kin G a_law
  have gC_BadHarp := PySem.W.mg_of kin G aC_BadHarp
  have gC_TooLarge := PySem.W.mg_of kin G aC_TooLarge
  have y_BadHarp : XCls2 l.prog K mg "BadHarp" "where" "fault" := ⟨si_BadHarp, C_BadHarp, ⟨⟨xfI_BadHarp, xcda_BadHarp, xcc_BadHarp, xq_BadHarp, xkV_BadHarp, xdoc_BadHarp, xpm_BadHarp, xct_BadHarp, xoc_BadHarp, xccl_BadHarp, xcl_BadHarp, xan_BadHarp, xod_BadHarp, xcdd_BadHarp, xcld_BadHarp, xosl_BadHarp, xccs_BadHarp, xcsl_BadHarp, xvs_BadHarp, xfile_BadHarp, xtf_BadHarp, lX_BadHarp, cX_BadHarp, fX_BadHarp, tX_BadHarp, dX_BadHarp, vX_BadHarp, eX_BadHarp, gX_BadHarp⟩, ⟨xcd_BadHarp, oX_BadHarp, rX_BadHarp, hX_BadHarp⟩, iX_BadHarp, gC_BadHarp, kC_BadHarp, bC_BadHarp, wX_BadHarp, tC_BadHarp, mX_BadHarp, sX_BadHarp, zz_third, aX_BadHarp, nF_BadHarp_where, nF_BadHarp_fault, PySem.W.mg_none_of kin G zz_super⟩, it_BadHarp zz_top⟩
  have y_TooLarge : XCls2 l.prog K mg "TooLarge" "what" "limit" := ⟨si_TooLarge, C_TooLarge, ⟨⟨xfI_TooLarge, xcda_TooLarge, xcc_TooLarge, xq_TooLarge, xkV_TooLarge, xdoc_TooLarge, xpm_TooLarge, xct_TooLarge, xoc_TooLarge, xccl_TooLarge, xcl_TooLarge, xan_TooLarge, xod_TooLarge, xcdd_TooLarge, xcld_TooLarge, xosl_TooLarge, xccs_TooLarge, xcsl_TooLarge, xvs_TooLarge, xfile_TooLarge, xtf_TooLarge, lX_TooLarge, cX_TooLarge, fX_TooLarge, tX_TooLarge, dX_TooLarge, vX_TooLarge, eX_TooLarge, gX_TooLarge⟩, ⟨xcd_TooLarge, oX_TooLarge, rX_TooLarge, hX_TooLarge⟩, iX_TooLarge, gC_TooLarge, kC_TooLarge, bC_TooLarge, wX_TooLarge, tC_TooLarge, mX_TooLarge, sX_TooLarge, zz_third, aX_TooLarge, nF_TooLarge_what, nF_TooLarge_limit, PySem.W.mg_none_of kin G zz_super⟩, it_TooLarge zz_top⟩
  have xf_BadHarp := xfB_ok xF_BadHarp
  have xf_TooLarge := xfB_ok xF_TooLarge
  have nf_BadHarp_fault := nF_BadHarp_fault
  have nf_BadHarp_where := nF_BadHarp_where
  have nf_TooLarge_limit := nF_TooLarge_limit
  have nf_TooLarge_what := nF_TooLarge_what
  have ap__law_raised : Apart K mg ["BadHarp", "TooLarge"] [("BadHarp", "harp", ["where", "fault"]), ("TooLarge", "large", ["what", "limit"])] [(C_BadHarp, "harp", ["where", "fault"]), (C_TooLarge, "large", ["what", "limit"])] := (apart_cons (by decide) gC_BadHarp (by
      intro e m C hC
      simp only [List.mem_cons, List.not_mem_nil, or_false] at m
      rcases m with rfl | rfl
      · obtain rfl := one_ref hC gC_BadHarp
        exact (exm_two bC_BadHarp iC_BadHarp tC_BadHarp sC_BadHarp).trans rfl
      · obtain rfl := one_ref hC gC_TooLarge
        exact (exm_two bC_BadHarp iC_BadHarp tC_BadHarp sP_TooLarge_BadHarp).trans rfl) (apart_cons (by decide) gC_TooLarge (by
      intro e m C hC
      simp only [List.mem_cons, List.not_mem_nil, or_false] at m
      rcases m with rfl | rfl
      · obtain rfl := one_ref hC gC_BadHarp
        exact (exm_two bC_TooLarge iC_TooLarge tC_TooLarge sP_BadHarp_TooLarge).trans rfl
      · obtain rfl := one_ref hC gC_TooLarge
        exact (exm_two bC_TooLarge iC_TooLarge tC_TooLarge sC_TooLarge).trans rfl) apart_nil))
  have q_LETTERS : GlC K mg "LETTERS" (.str "abcdefghijklmnopqrstuvwxyz") := GlC.of (PySem.W.mg_of kin G gV_LETTERS) 4 gW_LETTERS
  have q_MOST_FINGERS : GlC K mg "MOST_FINGERS" (.int 5) := GlC.of (PySem.W.mg_of kin G gV_MOST_FINGERS) 4 gW_MOST_FINGERS
  have q_MOST_LETTERS_forms : GlC K mg "MOST_LETTERS_forms" (.int 8) := GlC.of (PySem.W.mg_of kin G gV_MOST_LETTERS_forms) 4 gW_MOST_LETTERS_forms
  have q_MOST_LETTERS_harps : GlC K mg "MOST_LETTERS_harps" (.int 9) := GlC.of (PySem.W.mg_of kin G gV_MOST_LETTERS_harps) 4 gW_MOST_LETTERS_harps
  have q_MOST_REACH : GlC K mg "MOST_REACH" (.int 59) := GlC.of (PySem.W.mg_of kin G gV_MOST_REACH) 4 gW_MOST_REACH
  have q_MOST_ROUND : GlC K mg "MOST_ROUND" (.int 24) := GlC.of (PySem.W.mg_of kin G gV_MOST_ROUND) 4 gW_MOST_ROUND
  have q_MOST_STRINGS : GlC K mg "MOST_STRINGS" (.int 60) := GlC.of (PySem.W.mg_of kin G gV_MOST_STRINGS) 4 gW_MOST_STRINGS
  have q_RESERVED : GlC K mg "RESERVED" (.tuple [(.str "hands"), (.str "left"), (.str "letter"), (.str "note"), (.str "right"), (.str "round"), (.str "strings"), (.str "ticks")]) := GlC.of (PySem.W.mg_of kin G gV_RESERVED) 4 gW_RESERVED
  refine ⟨PySem.W.fnOf "law" "law" (defArgs st_law) (defBody st_law) (defScope st_law) .none kV_law dc_law pm_law an_law (.ref cc_law) ct_law, [(cc_law, pt_law)], spLaw K [(pt_law, (("law" : Str) ++ ".<locals>." ++ "<lambda>" : Str))], fun p m => ?_, fun p m => ?_, fun p m => ?_, fun s v => .of_eq rfl, fun H a ns few tabs scr => ⟨a, ns, rfl, scr, few, fun p m => ?_, fun _ => rfl⟩, fun base bk bg tb => ?_⟩
  · simp only [List.mem_cons, List.not_mem_nil, or_false] at m
    rcases m with rfl
    · exact T _ m_law
  · simp only [List.mem_cons, List.not_mem_nil, or_false] at m
    rcases m with rfl
    · exact n_law
  · simp only [List.mem_cons, List.not_mem_nil, or_false] at m
    rcases m with rfl
    · exact PySem.W.codeHd_of_K kin h_law
  · simp only [List.mem_cons, List.not_mem_nil, or_false] at m
    rcases m with rfl
    · exact LamX.TabS.nil (tabs (cc_law, pt_law) (by simp))
  · have D_is_number := s_is_number (P := l.prog) (w := w) (base := base) (TT := [(pt_law, (("law" : Str) ++ ".<locals>." ++ "<lambda>" : Str))]) B ⟨_, _, F_is_number, g_is_number, b_is_number⟩ v_is_number
    have D_is_index := s_is_index (P := l.prog) (w := w) (base := base) (TT := [(pt_law, (("law" : Str) ++ ".<locals>." ++ "<lambda>" : Str))]) B ⟨_, _, F_is_index, g_is_index, b_is_index⟩ D_is_number v_is_index
    have D_is_name := s_is_name (P := l.prog) (w := w) (base := base) (TT := [(pt_law, (("law" : Str) ++ ".<locals>." ++ "<lambda>" : Str))]) B ⟨_, _, F_is_name, g_is_name, b_is_name⟩ q_LETTERS q_MOST_LETTERS_forms q_RESERVED v_is_name
    have D_is_sized := s_is_sized (P := l.prog) (w := w) (base := base) (TT := [(pt_law, (("law" : Str) ++ ".<locals>." ++ "<lambda>" : Str))]) B ⟨_, _, F_is_sized, g_is_sized, b_is_sized⟩ v_is_sized
    have D_is_tuple_of := s_is_tuple_of (P := l.prog) (w := w) (base := base) (TT := [(pt_law, (("law" : Str) ++ ".<locals>." ++ "<lambda>" : Str))]) B ⟨_, _, F_is_tuple_of, g_is_tuple_of, b_is_tuple_of⟩ v_is_tuple_of
    have D_is_letter := s_is_letter (P := l.prog) (w := w) (base := base) (TT := [(pt_law, (("law" : Str) ++ ".<locals>." ++ "<lambda>" : Str))]) B ⟨_, _, F_is_letter, g_is_letter, b_is_letter⟩ D_is_sized D_is_name D_is_index v_is_letter
    have D_is_harp_form := s_is_harp_form (P := l.prog) (w := w) (base := base) (TT := [(pt_law, (("law" : Str) ++ ".<locals>." ++ "<lambda>" : Str))]) B ⟨_, _, F_is_harp_form, g_is_harp_form, b_is_harp_form⟩ D_is_sized D_is_tuple_of D_is_letter D_is_index v_is_harp_form
    have D_check_number := s_check_number (P := l.prog) (w := w) (base := base) (TT := [(pt_law, (("law" : Str) ++ ".<locals>." ++ "<lambda>" : Str))]) B ⟨_, _, F_check_number, g_check_number, b_check_number⟩ y_BadHarp y_TooLarge v_check_number
    have D_check_letters := s_check_letters (P := l.prog) (w := w) (base := base) (TT := [(pt_law, (("law" : Str) ++ ".<locals>." ++ "<lambda>" : Str))]) B ⟨_, _, F_check_letters, g_check_letters, b_check_letters⟩ y_BadHarp v_check_letters
    have D_checked_harp := s_checked_harp (P := l.prog) (w := w) (base := base) (TT := [(pt_law, (("law" : Str) ++ ".<locals>." ++ "<lambda>" : Str))]) B ⟨_, _, F_checked_harp, g_checked_harp, b_checked_harp⟩ D_is_harp_form D_check_number D_check_letters y_BadHarp q_MOST_FINGERS q_MOST_LETTERS_harps q_MOST_REACH q_MOST_ROUND q_MOST_STRINGS v_checked_harp
    have D__law_take := s__law_take (P := l.prog) (w := w) (base := base) (TT := [(pt_law, (("law" : Str) ++ ".<locals>." ++ "<lambda>" : Str))]) B ⟨_, _, F__law_take, g__law_take, b__law_take⟩ v__law_take
    have D__law_some := s__law_some (P := l.prog) (w := w) (base := base) (TT := [(pt_law, (("law" : Str) ++ ".<locals>." ++ "<lambda>" : Str))]) B ⟨_, _, F__law_some, g__law_some, b__law_some⟩ D__law_take v__law_some
    have D__law_mixed := s__law_mixed (P := l.prog) (w := w) (base := base) (TT := [(pt_law, (("law" : Str) ++ ".<locals>." ++ "<lambda>" : Str))]) B ⟨_, _, F__law_mixed, g__law_mixed, b__law_mixed⟩ D__law_take v__law_mixed
    have D__law_alike := s__law_alike (P := l.prog) (w := w) (base := base) (TT := [(pt_law, (("law" : Str) ++ ".<locals>." ++ "<lambda>" : Str))]) B ⟨_, _, F__law_alike, g__law_alike, b__law_alike⟩ v__law_alike
    have D__law_is_int := s__law_is_int (P := l.prog) (w := w) (base := base) (TT := [(pt_law, (("law" : Str) ++ ".<locals>." ++ "<lambda>" : Str))]) B ⟨_, _, F__law_is_int, g__law_is_int, b__law_is_int⟩ v__law_is_int
    have D__law_harp := s__law_harp (P := l.prog) (w := w) (base := base) (TT := [(pt_law, (("law" : Str) ++ ".<locals>." ++ "<lambda>" : Str))]) B ⟨_, _, F__law_harp, g__law_harp, b__law_harp⟩ D__law_take D__law_some D__law_mixed v__law_harp
    have D__law_is_name := s__law_is_name (P := l.prog) (w := w) (base := base) (TT := [(pt_law, (("law" : Str) ++ ".<locals>." ++ "<lambda>" : Str))]) B ⟨_, _, F__law_is_name, g__law_is_name, b__law_is_name⟩ v__law_is_name
    have D__law_is_form := s__law_is_form (P := l.prog) (w := w) (base := base) (TT := [(pt_law, (("law" : Str) ++ ".<locals>." ++ "<lambda>" : Str))]) B ⟨_, _, F__law_is_form, g__law_is_form, b__law_is_form⟩ D__law_is_name D__law_is_int v__law_is_form
    have D__law_bound := s__law_bound (P := l.prog) (w := w) (base := base) (TT := [(pt_law, (("law" : Str) ++ ".<locals>." ++ "<lambda>" : Str))]) B ⟨_, _, F__law_bound, g__law_bound, b__law_bound⟩ v__law_bound
    have D__law_due := s__law_due (P := l.prog) (w := w) (base := base) (TT := [(pt_law, (("law" : Str) ++ ".<locals>." ++ "<lambda>" : Str))]) B ⟨_, _, F__law_due, g__law_due, b__law_due⟩ D__law_is_form D__law_bound v__law_due
    have D__law_bent := s__law_bent (P := l.prog) (w := w) (base := base) (TT := [(pt_law, (("law" : Str) ++ ".<locals>." ++ "<lambda>" : Str))]) B ⟨_, _, F__law_bent, g__law_bent, b__law_bent⟩ D__law_take D__law_some v__law_bent
    have FB : FnOk l.prog w K mg base (L2.CX l.prog w) 1 f__law_bag _ ["script"] (spBag K [(pt_law, (("law" : Str) ++ ".<locals>." ++ "<lambda>" : Str))]) := bag_fn (k := 0) F__law_bag sc__law_bag fun cdv A outer s H E a ns hS few gr => sim_bone (sim_retO (sim_lst (sim_cons sim_int (sim_cons sim_int (sim_cons sim_int (sim_cons (sim_lc (own := [("cell", 1)]) rfl sc__law_bag.nd gr (sim_scr hS few) (blkOk_by (N := ["script", "cell"]) (sc := defScope st__law_bag) (by decide +kernel)) (by decide) (fun s H C cl fp => sim_bname 1 sc__law_bag.nd) (fun s H C cl fp => sim_tsnil) (fun s H C cl fp => sim_callB cd_abs rfl (PySem.W.mg_none_of kin G z_abs) (by decide +kernel) (sim_cons (sim_var 1) sim_nil))) sim_nil))))))
    exact law_fn (k := 17) F_law sc_law rfl FB (by decide) g__law_bag k__law_bag b__law_bag rfl rfl (by first | exact Or.inl rfl | exact Or.inr (Or.inl rfl)) (by first | exact Or.inl rfl | exact Or.inr rfl) rfl (fun cdv A outer s H E Z ow Hb hc hgd hr hT gr => s_law B D__law_harp D__law_bent D__law_is_form D__law_alike D__law_due D_checked_harp D__law_take (tb (cc_law, pt_law) (by simp)) (fun f hf => by obtain rfl := one_ref hf g_law; exact ⟨_, _, _, _, l_law, rfl⟩) (by simp) (fun p m e => by
        simp only [List.mem_cons, List.not_mem_nil, or_false] at m
        rcases m with rfl
        · exact rfl) F__law_raised g__law_raised b__law_raised gC_BadHarp gC_TooLarge xf_BadHarp nf_BadHarp_where nf_BadHarp_fault xf_TooLarge nf_TooLarge_what nf_TooLarge_limit ap__law_raised g_law hc hgd hr hT gr) v_law
end Pd
open PySem PySem.W PyProof.Rows
set_option maxRecDepth 100000 in
set_option maxHeartbeats 0 in
theorem PySem.Challenge.cw_sevenpedals_k01_first_faults_of_harps_holds : PySem.Challenge.rw_sevenpedals_k01_first_faults_of_harps.Holds := by
  w_on; o_law; k_head; (case hw => w_witness2)
  k_fill
  refine Pd.law_walk (l := PySem.Challenge.rw_sevenpedals_k01_first_faults_of_harps) (n := 63) (k := 18) (x := "script") rfl (by decide) rfl ⟨rfl, by decide, by decide⟩ (fun w h Y => PySem.W.km_in_of Y) ?F
  case F =>
    intro w mg fa h Y kin G hmg
    refine' Pd.all_mk (l := PySem.Challenge.rw_sevenpedals_k01_first_faults_of_harps) kin G hmg (PySem.W.km_tabs_of Y) ?a_is_number ?l_is_number ?c_is_number ?k_is_number ?a_is_index ?l_is_index ?c_is_index ?k_is_index ?a_is_name ?l_is_name ?c_is_name ?k_is_name ?a_is_sized ?l_is_sized ?c_is_sized ?k_is_sized ?a_is_tuple_of ?l_is_tuple_of ?c_is_tuple_of ?k_is_tuple_of ?a_is_letter ?l_is_letter ?c_is_letter ?k_is_letter ?a_is_harp_form ?l_is_harp_form ?c_is_harp_form ?k_is_harp_form ?a_check_number ?l_check_number ?c_check_number ?k_check_number ?a_check_letters ?l_check_letters ?c_check_letters ?k_check_letters ?a_checked_harp ?l_checked_harp ?c_checked_harp ?k_checked_harp ?a__law_take ?l__law_take ?c__law_take ?k__law_take ?a__law_some ?l__law_some ?c__law_some ?k__law_some ?a__law_mixed ?l__law_mixed ?c__law_mixed ?k__law_mixed ?a__law_alike ?l__law_alike ?c__law_alike ?k__law_alike ?a__law_is_int ?l__law_is_int ?c__law_is_int ?k__law_is_int ?a__law_harp ?l__law_harp ?c__law_harp ?k__law_harp ?a__law_is_name ?l__law_is_name ?c__law_is_name ?k__law_is_name ?a__law_is_form ?l__law_is_form ?c__law_is_form ?k__law_is_form ?a__law_bound ?l__law_bound ?c__law_bound ?k__law_bound ?a__law_due ?l__law_due ?c__law_due ?k__law_due ?a__law_bent ?l__law_bent ?c__law_bent ?k__law_bent ?a__law_raised ?l__law_raised ?c__law_raised ?k__law_raised ?a__law_bag ?l__law_bag ?c__law_bag ?k__law_bag ?a_law ?l_law ?c_law ?k_law ?h_law ?n_law ?m_law ?aC_BadHarp ?kC_BadHarp ?bC_BadHarp ?tC_BadHarp ?iC_BadHarp ?sC_BadHarp ?aC_TooLarge ?kC_TooLarge ?bC_TooLarge ?tC_TooLarge ?iC_TooLarge ?sC_TooLarge ?sP_BadHarp_TooLarge ?sP_TooLarge_BadHarp ?xF_BadHarp ?xF_TooLarge ?nF_BadHarp_fault ?nF_BadHarp_where ?nF_TooLarge_limit ?nF_TooLarge_what ?zz_third ?zz_super ?zz_top ?fX_BadHarp ?lX_BadHarp ?cX_BadHarp ?tX_BadHarp ?dX_BadHarp ?vX_BadHarp ?eX_BadHarp ?gX_BadHarp ?oX_BadHarp ?rX_BadHarp ?hX_BadHarp ?iX_BadHarp ?wX_BadHarp ?mX_BadHarp ?sX_BadHarp ?aX_BadHarp ?fX_TooLarge ?lX_TooLarge ?cX_TooLarge ?tX_TooLarge ?dX_TooLarge ?vX_TooLarge ?eX_TooLarge ?gX_TooLarge ?oX_TooLarge ?rX_TooLarge ?hX_TooLarge ?iX_TooLarge ?wX_TooLarge ?mX_TooLarge ?sX_TooLarge ?aX_TooLarge ?gV_LETTERS ?gW_LETTERS ?gV_MOST_FINGERS ?gW_MOST_FINGERS ?gV_MOST_LETTERS_forms ?gW_MOST_LETTERS_forms ?gV_MOST_LETTERS_harps ?gW_MOST_LETTERS_harps ?gV_MOST_REACH ?gW_MOST_REACH ?gV_MOST_ROUND ?gW_MOST_ROUND ?gV_MOST_STRINGS ?gW_MOST_STRINGS ?gV_RESERVED ?gW_RESERVED ?z_abs ?z_all ?z_bool ?z_enumerate ?z_int ?z_isinstance ?z_len ?z_list ?z_range ?z_repr ?z_sorted ?z_str ?z_tuple ?z_zip
    (case a_is_number => first | k_is | rfl)
    (case l_is_number => first | k_is | rfl)
    (case c_is_number => first | k_is | rfl)
    (case k_is_number => first | k_is | rfl)
    (case a_is_index => first | k_is | rfl)
    (case l_is_index => first | k_is | rfl)
    (case c_is_index => first | k_is | rfl)
    (case k_is_index => first | k_is | rfl)
    (case a_is_name => first | k_is | rfl)
    (case l_is_name => first | k_is | rfl)
    (case c_is_name => first | k_is | rfl)
    (case k_is_name => first | k_is | rfl)
    (case a_is_sized => first | k_is | rfl)
    (case l_is_sized => first | k_is | rfl)
    (case c_is_sized => first | k_is | rfl)
    (case k_is_sized => first | k_is | rfl)
    (case a_is_tuple_of => first | k_is | rfl)
    (case l_is_tuple_of => first | k_is | rfl)
    (case c_is_tuple_of => first | k_is | rfl)
    (case k_is_tuple_of => first | k_is | rfl)
    (case a_is_letter => first | k_is | rfl)
    (case l_is_letter => first | k_is | rfl)
    (case c_is_letter => first | k_is | rfl)
    (case k_is_letter => first | k_is | rfl)
    (case a_is_harp_form => first | k_is | rfl)
    (case l_is_harp_form => first | k_is | rfl)
    (case c_is_harp_form => first | k_is | rfl)
    (case k_is_harp_form => first | k_is | rfl)
    (case a_check_number => first | k_is | rfl)
    (case l_check_number => first | k_is | rfl)
    (case c_check_number => first | k_is | rfl)
    (case k_check_number => first | k_is | rfl)
    (case a_check_letters => first | k_is | rfl)
    (case l_check_letters => first | k_is | rfl)
    (case c_check_letters => first | k_is | rfl)
    (case k_check_letters => first | k_is | rfl)
    (case a_checked_harp => first | k_is | rfl)
    (case l_checked_harp => first | k_is | rfl)
    (case c_checked_harp => first | k_is | rfl)
    (case k_checked_harp => first | k_is | rfl)
    (case a__law_take => first | k_is | rfl)
    (case l__law_take => first | k_is | rfl)
    (case c__law_take => first | k_is | rfl)
    (case k__law_take => first | k_is | rfl)
    (case a__law_some => first | k_is | rfl)
    (case l__law_some => first | k_is | rfl)
    (case c__law_some => first | k_is | rfl)
    (case k__law_some => first | k_is | rfl)
    (case a__law_mixed => first | k_is | rfl)
    (case l__law_mixed => first | k_is | rfl)
    (case c__law_mixed => first | k_is | rfl)
    (case k__law_mixed => first | k_is | rfl)
    (case a__law_alike => first | k_is | rfl)
    (case l__law_alike => first | k_is | rfl)
    (case c__law_alike => first | k_is | rfl)
    (case k__law_alike => first | k_is | rfl)
    (case a__law_is_int => first | k_is | rfl)
    (case l__law_is_int => first | k_is | rfl)
    (case c__law_is_int => first | k_is | rfl)
    (case k__law_is_int => first | k_is | rfl)
    (case a__law_harp => first | k_is | rfl)
    (case l__law_harp => first | k_is | rfl)
    (case c__law_harp => first | k_is | rfl)
    (case k__law_harp => first | k_is | rfl)
    (case a__law_is_name => first | k_is | rfl)
    (case l__law_is_name => first | k_is | rfl)
    (case c__law_is_name => first | k_is | rfl)
    (case k__law_is_name => first | k_is | rfl)
    (case a__law_is_form => first | k_is | rfl)
    (case l__law_is_form => first | k_is | rfl)
    (case c__law_is_form => first | k_is | rfl)
    (case k__law_is_form => first | k_is | rfl)
    (case a__law_bound => first | k_is | rfl)
    (case l__law_bound => first | k_is | rfl)
    (case c__law_bound => first | k_is | rfl)
    (case k__law_bound => first | k_is | rfl)
    (case a__law_due => first | k_is | rfl)
    (case l__law_due => first | k_is | rfl)
    (case c__law_due => first | k_is | rfl)
    (case k__law_due => first | k_is | rfl)
    (case a__law_bent => first | k_is | rfl)
    (case l__law_bent => first | k_is | rfl)
    (case c__law_bent => first | k_is | rfl)
    (case k__law_bent => first | k_is | rfl)
    (case a__law_raised => first | k_is | rfl)
    (case l__law_raised => first | k_is | rfl)
    (case c__law_raised => first | k_is | rfl)
    (case k__law_raised => first | k_is | rfl)
    (case a__law_bag => first | k_is | rfl)
    (case l__law_bag => first | k_is | rfl)
    (case c__law_bag => first | k_is | rfl)
    (case k__law_bag => first | k_is | rfl)
    (case a_law => first | k_is | rfl)
    (case l_law => first | k_is | rfl)
    (case c_law => first | k_is | rfl)
    (case k_law => first | k_is | rfl)
    (first | ((case m_law => exact (.head _)); (case h_law => first | k_is | rfl)))
    (case n_law => first | k_is | rfl)
    skip
    (case aC_BadHarp => first | k_is | rfl)
    (case kC_BadHarp => first | k_is | rfl)
    (case bC_BadHarp => first | k_is | rfl)
    (case tC_BadHarp => first | k_is | rfl)
    (case iC_BadHarp => first | k_is | rfl)
    (case sC_BadHarp => first | k_is | rfl)
    (case aC_TooLarge => first | k_is | rfl)
    (case kC_TooLarge => first | k_is | rfl)
    (case bC_TooLarge => first | k_is | rfl)
    (case tC_TooLarge => first | k_is | rfl)
    (case iC_TooLarge => first | k_is | rfl)
    (case sC_TooLarge => first | k_is | rfl)
    (case sP_BadHarp_TooLarge => first | k_is | rfl)
    (case sP_TooLarge_BadHarp => first | k_is | rfl)
    (case xF_BadHarp => first | k_is | ks_is | rfl | kernel_rfl | decide +kernel)
    (case xF_TooLarge => first | k_is | ks_is | rfl | kernel_rfl | decide +kernel)
    (case nF_BadHarp_fault => first | k_is | rfl)
    (case nF_BadHarp_where => first | k_is | rfl)
    (case nF_TooLarge_limit => first | k_is | rfl)
    (case nF_TooLarge_what => first | k_is | rfl)
    (case zz_third => first | k_is | rfl)
    (case zz_super => first | k_is | rfl)
    (case zz_top => first | k_is | ks_is | rfl | kernel_rfl | decide +kernel)
    (case fX_BadHarp => first | k_is | rfl)
    (case lX_BadHarp => first | k_is | rfl)
    (case cX_BadHarp => first | k_is | rfl)
    (case tX_BadHarp => first | k_is | rfl)
    (case dX_BadHarp => first | k_is | rfl)
    (case vX_BadHarp => first | k_is | ks_is | rfl | kernel_rfl | decide +kernel)
    (case eX_BadHarp => first | k_is | ks_is | rfl | kernel_rfl | decide +kernel)
    (case gX_BadHarp => first | k_is | rfl)
    (case oX_BadHarp => first | k_is | rfl)
    (case rX_BadHarp => first | k_is | ks_is | rfl | kernel_rfl | decide +kernel)
    (case hX_BadHarp => first | k_is | ks_is | rfl | kernel_rfl | decide +kernel)
    (case iX_BadHarp => first | k_is | k_exc | kernel_rfl | rfl)
    (case wX_BadHarp => first | k_is | rfl)
    (case mX_BadHarp => first | k_is | rfl)
    (case sX_BadHarp => first | k_is | ks_is | rfl | kernel_rfl | decide +kernel)
    (case aX_BadHarp => first | k_is | rfl)
    (case fX_TooLarge => first | k_is | rfl)
    (case lX_TooLarge => first | k_is | rfl)
    (case cX_TooLarge => first | k_is | rfl)
    (case tX_TooLarge => first | k_is | rfl)
    (case dX_TooLarge => first | k_is | rfl)
    (case vX_TooLarge => first | k_is | ks_is | rfl | kernel_rfl | decide +kernel)
    (case eX_TooLarge => first | k_is | ks_is | rfl | kernel_rfl | decide +kernel)
    (case gX_TooLarge => first | k_is | rfl)
    (case oX_TooLarge => first | k_is | rfl)
    (case rX_TooLarge => first | k_is | ks_is | rfl | kernel_rfl | decide +kernel)
    (case hX_TooLarge => first | k_is | ks_is | rfl | kernel_rfl | decide +kernel)
    (case iX_TooLarge => first | k_is | k_exc | kernel_rfl | rfl)
    (case wX_TooLarge => first | k_is | rfl)
    (case mX_TooLarge => first | k_is | rfl)
    (case sX_TooLarge => first | k_is | ks_is | rfl | kernel_rfl | decide +kernel)
    (case aX_TooLarge => first | k_is | rfl)
    (case gV_LETTERS => first | k_is | rfl)
    (case gW_LETTERS => first | exact Pd.valD_int _ _ _ _ | exact Pd.valD_str _ _ _ _ | exact Pd.valD_bool _ _ _ | exact Pd.valD_none _ _ | exact Pd.valD_tup rfl rfl (by repeat (first | exact Pd.valsD_nil _ _ | refine Pd.valsD_cons (by first | exact Pd.valD_int _ _ _ _ | exact Pd.valD_str _ _ _ _ | exact Pd.valD_bool _ _ _ | exact Pd.valD_none _ _ | exact Pd.valD_tup rfl rfl (by repeat (first | exact Pd.valsD_nil _ _ | refine Pd.valsD_cons (by first | exact Pd.valD_int _ _ _ _ | exact Pd.valD_str _ _ _ _ | exact Pd.valD_bool _ _ _ | exact Pd.valD_none _ _) ?_))) ?_)) | k_is | rfl)
    (case gV_MOST_FINGERS => first | k_is | rfl)
    (case gW_MOST_FINGERS => first | exact Pd.valD_int _ _ _ _ | exact Pd.valD_str _ _ _ _ | exact Pd.valD_bool _ _ _ | exact Pd.valD_none _ _ | exact Pd.valD_tup rfl rfl (by repeat (first | exact Pd.valsD_nil _ _ | refine Pd.valsD_cons (by first | exact Pd.valD_int _ _ _ _ | exact Pd.valD_str _ _ _ _ | exact Pd.valD_bool _ _ _ | exact Pd.valD_none _ _ | exact Pd.valD_tup rfl rfl (by repeat (first | exact Pd.valsD_nil _ _ | refine Pd.valsD_cons (by first | exact Pd.valD_int _ _ _ _ | exact Pd.valD_str _ _ _ _ | exact Pd.valD_bool _ _ _ | exact Pd.valD_none _ _) ?_))) ?_)) | k_is | rfl)
    (case gV_MOST_LETTERS_forms => first | k_is | rfl)
    (case gW_MOST_LETTERS_forms => first | exact Pd.valD_int _ _ _ _ | exact Pd.valD_str _ _ _ _ | exact Pd.valD_bool _ _ _ | exact Pd.valD_none _ _ | exact Pd.valD_tup rfl rfl (by repeat (first | exact Pd.valsD_nil _ _ | refine Pd.valsD_cons (by first | exact Pd.valD_int _ _ _ _ | exact Pd.valD_str _ _ _ _ | exact Pd.valD_bool _ _ _ | exact Pd.valD_none _ _ | exact Pd.valD_tup rfl rfl (by repeat (first | exact Pd.valsD_nil _ _ | refine Pd.valsD_cons (by first | exact Pd.valD_int _ _ _ _ | exact Pd.valD_str _ _ _ _ | exact Pd.valD_bool _ _ _ | exact Pd.valD_none _ _) ?_))) ?_)) | k_is | rfl)
    (case gV_MOST_LETTERS_harps => first | k_is | rfl)
    (case gW_MOST_LETTERS_harps => first | exact Pd.valD_int _ _ _ _ | exact Pd.valD_str _ _ _ _ | exact Pd.valD_bool _ _ _ | exact Pd.valD_none _ _ | exact Pd.valD_tup rfl rfl (by repeat (first | exact Pd.valsD_nil _ _ | refine Pd.valsD_cons (by first | exact Pd.valD_int _ _ _ _ | exact Pd.valD_str _ _ _ _ | exact Pd.valD_bool _ _ _ | exact Pd.valD_none _ _ | exact Pd.valD_tup rfl rfl (by repeat (first | exact Pd.valsD_nil _ _ | refine Pd.valsD_cons (by first | exact Pd.valD_int _ _ _ _ | exact Pd.valD_str _ _ _ _ | exact Pd.valD_bool _ _ _ | exact Pd.valD_none _ _) ?_))) ?_)) | k_is | rfl)
    (case gV_MOST_REACH => first | k_is | rfl)
    (case gW_MOST_REACH => first | exact Pd.valD_int _ _ _ _ | exact Pd.valD_str _ _ _ _ | exact Pd.valD_bool _ _ _ | exact Pd.valD_none _ _ | exact Pd.valD_tup rfl rfl (by repeat (first | exact Pd.valsD_nil _ _ | refine Pd.valsD_cons (by first | exact Pd.valD_int _ _ _ _ | exact Pd.valD_str _ _ _ _ | exact Pd.valD_bool _ _ _ | exact Pd.valD_none _ _ | exact Pd.valD_tup rfl rfl (by repeat (first | exact Pd.valsD_nil _ _ | refine Pd.valsD_cons (by first | exact Pd.valD_int _ _ _ _ | exact Pd.valD_str _ _ _ _ | exact Pd.valD_bool _ _ _ | exact Pd.valD_none _ _) ?_))) ?_)) | k_is | rfl)
    (case gV_MOST_ROUND => first | k_is | rfl)
    (case gW_MOST_ROUND => first | exact Pd.valD_int _ _ _ _ | exact Pd.valD_str _ _ _ _ | exact Pd.valD_bool _ _ _ | exact Pd.valD_none _ _ | exact Pd.valD_tup rfl rfl (by repeat (first | exact Pd.valsD_nil _ _ | refine Pd.valsD_cons (by first | exact Pd.valD_int _ _ _ _ | exact Pd.valD_str _ _ _ _ | exact Pd.valD_bool _ _ _ | exact Pd.valD_none _ _ | exact Pd.valD_tup rfl rfl (by repeat (first | exact Pd.valsD_nil _ _ | refine Pd.valsD_cons (by first | exact Pd.valD_int _ _ _ _ | exact Pd.valD_str _ _ _ _ | exact Pd.valD_bool _ _ _ | exact Pd.valD_none _ _) ?_))) ?_)) | k_is | rfl)
    (case gV_MOST_STRINGS => first | k_is | rfl)
    (case gW_MOST_STRINGS => first | exact Pd.valD_int _ _ _ _ | exact Pd.valD_str _ _ _ _ | exact Pd.valD_bool _ _ _ | exact Pd.valD_none _ _ | exact Pd.valD_tup rfl rfl (by repeat (first | exact Pd.valsD_nil _ _ | refine Pd.valsD_cons (by first | exact Pd.valD_int _ _ _ _ | exact Pd.valD_str _ _ _ _ | exact Pd.valD_bool _ _ _ | exact Pd.valD_none _ _ | exact Pd.valD_tup rfl rfl (by repeat (first | exact Pd.valsD_nil _ _ | refine Pd.valsD_cons (by first | exact Pd.valD_int _ _ _ _ | exact Pd.valD_str _ _ _ _ | exact Pd.valD_bool _ _ _ | exact Pd.valD_none _ _) ?_))) ?_)) | k_is | rfl)
    (case gV_RESERVED => first | k_is | rfl)
    (case gW_RESERVED => first | exact Pd.valD_int _ _ _ _ | exact Pd.valD_str _ _ _ _ | exact Pd.valD_bool _ _ _ | exact Pd.valD_none _ _ | exact Pd.valD_tup rfl rfl (by repeat (first | exact Pd.valsD_nil _ _ | refine Pd.valsD_cons (by first | exact Pd.valD_int _ _ _ _ | exact Pd.valD_str _ _ _ _ | exact Pd.valD_bool _ _ _ | exact Pd.valD_none _ _ | exact Pd.valD_tup rfl rfl (by repeat (first | exact Pd.valsD_nil _ _ | refine Pd.valsD_cons (by first | exact Pd.valD_int _ _ _ _ | exact Pd.valD_str _ _ _ _ | exact Pd.valD_bool _ _ _ | exact Pd.valD_none _ _) ?_))) ?_)) | k_is | rfl)
    (case z_abs => first | k_is | rfl)
    (case z_all => first | k_is | rfl)
    (case z_bool => first | k_is | rfl)
    (case z_enumerate => first | k_is | rfl)
    (case z_int => first | k_is | rfl)
    (case z_isinstance => first | k_is | rfl)
    (case z_len => first | k_is | rfl)
    (case z_list => first | k_is | rfl)
    (case z_range => first | k_is | rfl)
    (case z_repr => first | k_is | rfl)
    (case z_sorted => first | k_is | rfl)
    (case z_str => first | k_is | rfl)
    (case z_tuple => first | k_is | rfl)
    (case z_zip => first | k_is | rfl)
