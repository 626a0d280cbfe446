import PyProof.Rows.All
import Wide.All
import OpenK.AllK
import Wide.FinOn
import HandS.ForMost
import HandS.SortKw
import HandS.SortInts
import HandS.Conv
import HandS.IsInst
import KE.DataMinMax
import KE.SortData
import HandS.ForExc
import HandS.Comp
import KE.GoesRaise
import KE.KAsSuite
import HandS.ExcInit
import HandS.ExcField
import KE.KExcIs
import HandS.Codes
import HandS.ExcOwn
import PyProof.ExcBaseAll.ValueError
import HandS.Lambda
import HandS.Nested
import HandS.SetFor
import KE.DataMinKey
import HandS.TupAny
import HandS.Head0
import HandS.Head1
import HandS.Head2
import HandS.HeadEnd
import HandS.HeadHook1
import HandS.HeadHook2
import HandS.HeadHook3
import HandS.HeadHook4
import HandS.HeadWalk
import PySem.Challenge.RW_armorder_k01_disks_and_asks_refused
set_option Elab.async false
set_option linter.all false
set_option maxRecDepth 100000
set_option maxHeartbeats 4000000

namespace Ag
open PySem PySem.Spec PyProof.Rows L2

/-! ### heaps: what stands, a new thing, a changed thing -/
theorem same_new {H : Hp} {p : Addr} {o : HO} (h : H p = none) : Same H (upd H p o) := fun b x e => by
  rw [upd_ne (ne_of_none e h)]
  exact e
theorem same_upd {G H : Hp} {p : Addr} {o : HO} (s : Same G H) (h : G p = none) : Same G (upd H p o) := fun b x e => by
  rw [upd_ne (ne_of_none e h)]
  exact s b x e
theorem same_sqt {K : PySem.W.Frag} {H H' : Hp} {a : Addr} {xs : List V} (e : Same H H') (h : SqT K H a xs) : SqT K H' a xs := by
  rcases h with (h | ⟨o, h⟩) | h
  · exact .inl (.inl (e _ _ h))
  · exact .inl (.inr ⟨o, e _ _ h⟩)
  · exact .inr h
mutual
theorem dp_same {K : PySem.W.Frag} {H H' : Hp} (e : Same H H') : ∀ {d : PyData} {v : V}, Dp K H v d → Dp K H' v d
  | .none, _, h => by cases h; exact .non
  | .bool _, _, h => by cases h; exact .bl _
  | .int _, _, h => by cases h; exact .int _
  | .str _, _, h => by cases h; exact .str _
  | .list _, _, h => by
    cases h with
    | lst hs ha => exact .lst (e.seq hs) (dpa_same e ha)
  | .tuple _, _, h => by
    cases h with
    | tup hs ha => exact .tup (same_sqt e hs) (dpa_same e ha)
  | .dict _, _, h => by cases h
theorem dpa_same {K : PySem.W.Frag} {H H' : Hp} (e : Same H H') : ∀ {ds : List PyData} {vs : List V}, DpAll K H vs ds → DpAll K H' vs ds
  | [], _, h => by cases h; exact .nil
  | _ :: _, _, h => by
    cases h with
    | cons h1 h2 => exact .cons (dp_same e h1) (dpa_same e h2)
end
/-- the heap less what stands at r -/
def wo (H : Hp) (r : Addr) : Hp := fun b => if b = r then none else H b
theorem wo_at {H : Hp} {r : Addr} : wo H r r = none := by unfold wo; rw [if_pos rfl]
theorem wo_ne {H : Hp} {r b : Addr} (h : b ≠ r) : wo H r b = H b := by unfold wo; rw [if_neg h]
theorem wo_sub {H : Hp} {r : Addr} : Same (wo H r) H := fun b o e => by
  by_cases h : b = r
  · rw [h, wo_at] at e
    cases e
  · rw [wo_ne h] at e
    exact e
theorem wo_mono {H H' : Hp} {r : Addr} (s : Same H H') : Same (wo H r) (wo H' r) := fun b o e => by
  by_cases h : b = r
  · rw [h, wo_at] at e
    cases e
  · rw [wo_ne h] at e
    rw [wo_ne h]
    exact s _ _ e
theorem into_wo {G H : Hp} {r : Addr} (s : Same G H) (h : G r = none) : Same G (wo H r) := fun b o e => by
  rw [wo_ne (ne_of_none e h)]
  exact s _ _ e
/-- what is new in H' -/
def nw (H H' : Hp) : Hp := fun b => match H b with
  | none => H' b
  | some _ => none
theorem nw_none {H H' : Hp} {b : Addr} (h : H b = none) : nw H H' b = H' b := by unfold nw; rw [h]
theorem nw_some {H H' : Hp} {b : Addr} {o : HO} (h : H b = some o) : nw H H' b = none := by unfold nw; rw [h]
theorem nw_of {H H' : Hp} {b : Addr} {o : HO} (h : nw H H' b = some o) : H b = none ∧ H' b = some o := by
  cases e : H b with
  | none => rw [nw_none e] at h; exact ⟨rfl, h⟩
  | some x => rw [nw_some e] at h; cases h
theorem nw_sub {H H' : Hp} : Same (nw H H') H' := fun b o e => (nw_of e).2
theorem nw_wo {H H' : Hp} {r : Addr} {o : HO} (h : H r = some o) : Same (nw H H') (wo H' r) := into_wo nw_sub (nw_some h)
theorem nw_into {G H H' : Hp} {r : Addr} (hr : ∃ o, H r = some o) : Same (nw H H') (wo H' r) := let ⟨_, h⟩ := hr; nw_wo h
/-- a later heap, the same beginning -/
theorem nw_later {H H1 H2 : Hp} (s : Same H1 H2) : Same (nw H H1) (nw H H2) := fun b o e => by
  obtain ⟨h1, h2⟩ := nw_of e
  rw [nw_none h1]
  exact s _ _ h2
/-- an earlier beginning -/
theorem nw_earlier {H H1 H2 : Hp} (s : Same H H1) : Same (nw H1 H2) (nw H H2) := fun b o e => by
  obtain ⟨h1, h2⟩ := nw_of e
  rw [nw_none (s.free h1)]
  exact h2
theorem nw_new {H H' : Hp} {p : Addr} {o : HO} (s : Same H H') (h : H' p = none) : nw H (upd H' p o) p = some o := by
  rw [nw_none (s.free h), upd_same]
theorem sqt_dp {K : PySem.W.Frag} {H : Hp} {a : Addr} {xs : List V} {ds : List PyData} (h : SqT K H a xs) (d : DpAll K H xs ds) : Dp K H (.ref a) (.tuple ds) := .tup h d

/-! ### ints, pairs, lists of them as data -/
theorem dpa_ints {K : PySem.W.Frag} {H : Hp} : ∀ ns : List Int, DpAll K H (ns.map V.int) (ns.map PyData.int)
  | [] => .nil
  | n :: r => .cons (.int n) (dpa_ints r)
theorem dpa_ints_inv {K : PySem.W.Frag} {H : Hp} : ∀ {ns : List Int} {vs : List V}, DpAll K H vs (ns.map PyData.int) → vs = ns.map V.int
  | [], _, h => by cases h; rfl
  | n :: r, _, h => by
    cases h with
    | cons h1 h2 =>
      cases h1
      rw [dpa_ints_inv h2]
      rfl
theorem dpa_len {K : PySem.W.Frag} {H : Hp} : ∀ {ds : List PyData} {vs : List V}, DpAll K H vs ds → vs.length = ds.length
  | [], _, h => by cases h; rfl
  | _ :: _, _, h => by
    cases h with
    | cons h1 h2 => simp only [List.length_cons, dpa_len h2]
theorem dpa_get {K : PySem.W.Frag} {H : Hp} : ∀ {ds : List PyData} {vs : List V} {i : Nat} {d : PyData}, DpAll K H vs ds → ds[i]? = some d → ∃ v, vs[i]? = some v ∧ Dp K H v d
  | [], _, _, _, _, e => by simp at e
  | _ :: _, _, 0, _, h, e => by
    cases h with
    | cons h1 h2 => simp at e; subst e; exact ⟨_, rfl, h1⟩
  | _ :: _, _, i + 1, _, h, e => by
    cases h with
    | cons h1 h2 =>
      obtain ⟨v, a, b⟩ := dpa_get (i := i) h2 (by simpa using e)
      exact ⟨v, by simpa using a, b⟩
theorem dpa_get' {K : PySem.W.Frag} {H : Hp} : ∀ {ds : List PyData} {vs : List V} {i : Nat} {v : V}, DpAll K H vs ds → vs[i]? = some v → ∃ d, ds[i]? = some d ∧ Dp K H v d
  | [], _, _, _, h, e => by cases h; simp at e
  | _ :: _, _, 0, _, h, e => by
    cases h with
    | cons h1 h2 => simp at e; subst e; exact ⟨_, rfl, h1⟩
  | _ :: _, _, i + 1, _, h, e => by
    cases h with
    | cons h1 h2 =>
      obtain ⟨v, a, b⟩ := dpa_get' (i := i) h2 (by simpa using e)
      exact ⟨v, by simpa using a, b⟩
theorem dpa_snoc {K : PySem.W.Frag} {H : Hp} : ∀ {ds : List PyData} {vs : List V} {d : PyData} {v : V}, DpAll K H vs ds → Dp K H v d → DpAll K H (vs ++ [v]) (ds ++ [d])
  | [], _, _, _, h, e => by cases h; exact .cons e .nil
  | _ :: _, _, _, _, h, e => by
    cases h with
    | cons h1 h2 => exact .cons h1 (dpa_snoc h2 e)
theorem dp_list {K : PySem.W.Frag} {H : Hp} {v : V} {ds : List PyData} (h : Dp K H v (.list ds)) : ∃ a xs, v = .ref a ∧ SqL K H a xs ∧ DpAll K H xs ds := by
  cases h with
  | lst hs ha => exact ⟨_, _, rfl, hs, ha⟩
theorem dp_tuple {K : PySem.W.Frag} {H : Hp} {v : V} {ds : List PyData} (h : Dp K H v (.tuple ds)) : ∃ a xs, v = .ref a ∧ SqT K H a xs ∧ DpAll K H xs ds := by
  cases h with
  | tup hs ha => exact ⟨_, _, rfl, hs, ha⟩
theorem dp_ints {K : PySem.W.Frag} {H : Hp} {v : V} {ns : List Int} (h : Dp K H v (.list (ns.map PyData.int))) : ∃ a, v = .ref a ∧ SqL K H a (ns.map V.int) := by
  obtain ⟨a, xs, e, hs, ha⟩ := dp_list h
  rw [dpa_ints_inv ha] at hs
  exact ⟨a, e, hs⟩
theorem dp_tints {K : PySem.W.Frag} {H : Hp} {v : V} {ns : List Int} (h : Dp K H v (.tuple (ns.map PyData.int))) : ∃ a, v = .ref a ∧ SqT K H a (ns.map V.int) := by
  obtain ⟨a, xs, e, hs, ha⟩ := dp_tuple h
  rw [dpa_ints_inv ha] at hs
  exact ⟨a, e, hs⟩
theorem dp_ints_of {K : PySem.W.Frag} {H : Hp} {a : Addr} {ns : List Int} (h : SqL K H a (ns.map V.int)) : Dp K H (.ref a) (.list (ns.map PyData.int)) := .lst h (dpa_ints ns)
theorem dp_tints_of {K : PySem.W.Frag} {H : Hp} {a : Addr} {ns : List Int} (h : SqT K H a (ns.map V.int)) : Dp K H (.ref a) (.tuple (ns.map PyData.int)) := .tup h (dpa_ints ns)

theorem eqv_nil (ns : List Int) : PyData.eqv (.list (ns.map PyData.int)) (.list []) = decide (ns = []) := by
  cases ns with
  | nil => simp [PyData.eqv, PyData.eqvAll]
  | cons n r => simp [PyData.eqv, PyData.eqvAll]

/-! ### disks and asks -/
/-- (come, track, sector) -/
abbrev Ask := Int × Int × Int
def dAsk (a : Ask) : PyData := .tuple ([a.1, a.2.1, a.2.2].map PyData.int)
def dAsks (l : List Ask) : PyData := .list (l.map dAsk)
structure Disk where
  tr : Int
  sc : Int
  pa : Int
  he : Int
def dDisk (d : Disk) : PyData := .tuple ([d.tr, d.sc, d.pa, d.he].map PyData.int)
structure GoodDisk (d : Disk) : Prop where
  t1 : 1 ≤ d.tr
  t2 : d.tr ≤ 64
  s1 : 1 ≤ d.sc
  s2 : d.sc ≤ 16
  p1 : 1 ≤ d.pa
  p2 : d.pa ≤ 4
  h1 : 0 ≤ d.he
  h2 : d.he < d.tr
structure GoodAsk (d : Disk) (a : Ask) : Prop where
  c1 : 0 ≤ a.1
  c2 : a.1 ≤ 999
  t1 : 0 ≤ a.2.1
  t2 : a.2.1 < d.tr
  s1 : 0 ≤ a.2.2
  s2 : a.2.2 < d.sc
structure GoodAsks (d : Disk) (l : List Ask) : Prop where
  len : l.length ≤ 40
  all : ∀ a ∈ l, GoodAsk d a
theorem GoodAsks.at {d : Disk} {l : List Ask} (g : GoodAsks d l) {i : Nat} {a : Ask} (h : l[i]? = some a) : GoodAsk d a := g.all a (List.mem_of_getElem? h)
theorem dp_asks {K : PySem.W.Frag} {H : Hp} {v : V} {l : List Ask} (h : Dp K H v (dAsks l)) : ∃ a xs, v = .ref a ∧ SqL K H a xs ∧ xs.length = l.length ∧
    ∀ (i : Nat) (k : Ask), l[i]? = some k → ∃ p, xs[i]? = some (.ref p) ∧ SqT K H p [.int k.1, .int k.2.1, .int k.2.2] ∧ Dp K H (.ref p) (dAsk k) := by
  obtain ⟨a, xs, e, hs, ha⟩ := dp_list h
  refine ⟨a, xs, e, hs, by rw [dpa_len ha, List.length_map], fun i k hk => ?_⟩
  obtain ⟨v, hv, hd⟩ := dpa_get (i := i) (d := dAsk k) ha (by rw [List.getElem?_map, hk]; rfl)
  obtain ⟨p, rfl, ht⟩ := dp_tints hd
  exact ⟨p, hv, ht, hd⟩
theorem dp_disk {K : PySem.W.Frag} {H : Hp} {v : V} {d : Disk} (h : Dp K H v (dDisk d)) : ∃ a, v = .ref a ∧ SqT K H a [.int d.tr, .int d.sc, .int d.pa, .int d.he] := dp_tints h

/-! ### all but what stands at r stays -/
def SameBut (r : Addr) (H H' : Hp) : Prop := ∀ b o, b ≠ r → H b = some o → H' b = some o
theorem sb_refl {r : Addr} {H : Hp} : SameBut r H H := fun _ _ _ e => e
theorem sb_of {r : Addr} {H H' : Hp} (s : Same H H') : SameBut r H H' := fun b o _ e => s b o e
theorem sb_trans {r : Addr} {H H1 H2 : Hp} (a : SameBut r H H1) (b : SameBut r H1 H2) : SameBut r H H2 := fun c o n e => b c o n (a c o n e)
theorem sb_upd {r : Addr} {H H' : Hp} {o : HO} (s : SameBut r H H') : SameBut r H (upd H' r o) := fun b x n e => by
  rw [upd_ne n]
  exact s b x n e
theorem sb_new {r p : Addr} {H H' : Hp} {o : HO} (s : SameBut r H H') (h : H' p = none) : SameBut r H (upd H' p o) := fun b x n e => by
  rw [upd_ne (ne_of_none (s b x n e) h)]
  exact s b x n e
theorem sb_old {r p : Addr} {H H' : Hp} {o : HO} (s : SameBut r H H') (h : H p = none) : SameBut r H (upd H' p o) := fun b x n e => by
  rw [upd_ne (ne_of_none e h)]
  exact s b x n e
theorem sb_wo {r : Addr} {H H' : Hp} (s : SameBut r H H') : Same (wo H r) (wo H' r) := fun b o e => by
  by_cases h : b = r
  · rw [h, wo_at] at e
    cases e
  · rw [wo_ne h] at e
    rw [wo_ne h]
    exact s _ _ h e
theorem sb_free {r p : Addr} {H H' : Hp} (s : SameBut r H H') (n : p ≠ r) (h : H' p = none) : H p = none := by
  cases e : H p with
  | none => rfl
  | some o =>
    rw [s p o n e] at h
    cases h
theorem wo2_step {r F : Addr} {H H' : Hp} (s : ∀ b o, b ≠ r → b ≠ F → H b = some o → H' b = some o) : Same (wo (wo H r) F) (wo (wo H' r) F) := fun b o e => by
  have n1 : b ≠ F := fun z => by
    rw [z, wo_at] at e
    cases e
  rw [wo_ne n1] at e
  have n2 : b ≠ r := fun z => by
    rw [z, wo_at] at e
    cases e
  rw [wo_ne n2] at e
  rw [wo_ne n1, wo_ne n2]
  exact s b o n2 n1 e
/-- what is new in H', besides F -/
def fr (H H' : Hp) (F : Addr) : Hp := wo (nw H H') F
theorem fr_step {H H1 H2 : Hp} {F : Addr} (s : SameBut F H1 H2) : Same (fr H H1 F) (fr H H2 F) := fun b o e => by
  have n : b ≠ F := fun z => by
    unfold fr at e
    rw [z, wo_at] at e
    cases e
  unfold fr at e ⊢
  rw [wo_ne n] at e
  rw [wo_ne n]
  obtain ⟨h1, h2⟩ := nw_of e
  rw [nw_none h1]
  exact s _ _ n h2
theorem fr_at {H H' : Hp} {F p : Addr} {o : HO} (n : p ≠ F) (h : H p = none) (e : H' p = some o) : fr H H' F p = some o := by
  unfold fr
  rw [wo_ne n, nw_none h]
  exact e
theorem fr_nw {H H' : Hp} {F : Addr} : Same (fr H H' F) (nw H H') := wo_sub
theorem fr_sub {H H' : Hp} {F : Addr} : Same (fr H H' F) H' := wo_sub.trans nw_sub

/-- what is new in H', besides F and W -/
def fr2 (H H' : Hp) (F W : Addr) : Hp := wo (fr H H' F) W
theorem fr2_step {H H1 H2 : Hp} {F W : Addr} (s : ∀ b o, b ≠ F → b ≠ W → H1 b = some o → H2 b = some o) : Same (fr2 H H1 F W) (fr2 H H2 F W) := fun b o e => by
  have n1 : b ≠ W := fun z => by
    unfold fr2 at e
    rw [z, wo_at] at e
    cases e
  unfold fr2 at e ⊢
  rw [wo_ne n1] at e
  rw [wo_ne n1]
  have n2 : b ≠ F := fun z => by
    unfold fr at e
    rw [z, wo_at] at e
    cases e
  unfold fr at e ⊢
  rw [wo_ne n2] at e
  rw [wo_ne n2]
  obtain ⟨h1, h2⟩ := nw_of e
  rw [nw_none h1]
  exact s _ _ n2 n1 h2
theorem fr2_at {H H' : Hp} {F W p : Addr} {o : HO} (n : p ≠ F) (n2 : p ≠ W) (h : H p = none) (e : H' p = some o) : fr2 H H' F W p = some o := by
  unfold fr2
  rw [wo_ne n2]
  exact fr_at n h e

/-! ### orders: numbers -/
def nints (os : List Nat) : List Int := os.map fun (i : Nat) => (i : Int)
theorem nints_len (os : List Nat) : (nints os).length = os.length := List.length_map ..
theorem nints_at {os : List Nat} {i : Nat} {x : V} (h : ((nints os).map V.int)[i]? = some x) : ∃ n, os[i]? = some n ∧ x = V.int (n : Int) := by
  unfold nints at h
  rw [List.map_map, List.getElem?_map] at h
  cases e : os[i]? with
  | none =>
    rw [e] at h
    cases h
  | some n =>
    rw [e] at h
    exact ⟨n, rfl, (Option.some.inj h).symm⟩
theorem nints_get {os : List Nat} {i n : Nat} (h : os[i]? = some n) : ((nints os).map V.int)[i]? = some (V.int (n : Int)) := by
  unfold nints
  rw [List.map_map, List.getElem?_map, h]
  rfl
theorem take_more {α : Type} : ∀ {l : List α} {i : Nat} {x : α}, l[i]? = some x → l.take (i + 1) = l.take i ++ [x]
  | [], i, x, h => by simp at h
  | a :: l, 0, x, h => by
    have e : a = x := Option.some.inj h
    subst e
    rfl
  | a :: l, i + 1, x, h => by
    have ih := take_more (l := l) (i := i) (x := x) h
    show a :: l.take (i + 1) = a :: l.take i ++ [x]
    rw [ih]
    rfl
theorem getD_of {α : Type} {l : List α} {i : Nat} {x d : α} (h : l[i]? = some x) : l.getD i d = x := by
  rw [List.getD_eq_getElem?_getD, h]
  rfl
/-- a rising list of the numbers below n, in any order, is 0, 1, .. -/
theorem rising_range {n : Nat} {ns : List Int} {os : List Nat} (p : ns.Perm (nints os)) (q : os.Perm (List.range n)) (r : ns.Pairwise (· ≤ ·)) : ns = nints (List.range n) := by
  have p2 : ns.Perm (nints (List.range n)) := p.trans (q.map _)
  refine List.Perm.eq_of_pairwise (le := fun a b : Int => a ≤ b) (fun a b _ _ h1 h2 => Int.le_antisymm h1 h2) r ?_ p2
  unfold nints
  rw [List.pairwise_map]
  exact List.pairwise_le_range.imp fun h => by exact_mod_cast h
theorem rg_nints (n : Nat) : rgV 0 (n : Int) = (nints (List.range n)).map V.int := by
  unfold rgV nints
  rw [List.map_map]
  have e : ((n : Int) - 0).toNat = n := by omega
  rw [e]
  refine List.map_congr_left fun i _ => ?_
  show V.int (0 + (i : Int)) = V.int (i : Int)
  rw [Int.zero_add]
theorem canLay_ints : ∀ ns : List Int, PyData.canLayAll0 (ns.map PyData.int) = true
  | [] => by simp [PyData.canLayAll0]
  | n :: r => by simp [PyData.canLayAll0, PyData.canLay0, canLay_ints r]
theorem shaped_ints (ns : List Int) : SeqAt.shaped (.list (ns.map PyData.int)) = true := by
  unfold SeqAt.shaped
  simp [PyData.canLay0, canLay_ints, PyData.depth, PySem.W.depth_ints]
theorem shaped_tints (ns : List Int) : SeqAt.shaped (.tuple (ns.map PyData.int)) = true := by
  unfold SeqAt.shaped
  simp [PyData.canLay0, canLay_ints, PyData.depth, PySem.W.depth_ints]

theorem canLay_asks : ∀ l : List Ask, PyData.canLayAll0 (l.map dAsk) = true
  | [] => by simp [PyData.canLayAll0]
  | n :: r => by simp [PyData.canLayAll0, PyData.canLay0, dAsk, canLay_asks r]
theorem depth_asks : ∀ l : List Ask, PyData.depthAll (l.map dAsk) ≤ 1
  | [] => by simp [PyData.depthAll]
  | n :: r => by
    have h := depth_asks r
    have e : PyData.depth (dAsk n) = 1 := by
      unfold dAsk
      rw [PyData.depth, PySem.W.depth_ints]
    rw [List.map_cons, PyData.depthAll, e]
    omega
theorem shaped_asks (l : List Ask) : SeqAt.shaped (dAsks l) = true := by
  have := depth_asks l
  unfold SeqAt.shaped
  simp [PyData.canLay0, canLay_asks, PyData.depth, dAsks]
  omega

/-! ### the row of the script: (script, place, mixed) -/
/-- the script: read, never written -/
def ScrAt (K : PySem.W.Frag) (H : Hp) (a : Addr) (ns : List Int) : Prop :=
  (∃ o, H a = some (.frz o (.lst (ns.map V.int)))) ∨
    ∃ (o : Obj) (its : Array Value) (n : Nat), K.lookup a = some o ∧ o.cls = .type "list" ∧ o.dict = none ∧ o.data = .seq its n ∧ its.size ≤ sizeLine ∧ Vals (ns.map V.int) its.toList
theorem ScrAt.sql {K : PySem.W.Frag} {H : Hp} {a : Addr} {ns : List Int} (h : ScrAt K H a ns) : SqL K H a (ns.map V.int) := by
  rcases h with ⟨o, h⟩ | h
  · exact .inl (.inr ⟨o, h⟩)
  · exact .inr h
theorem scr_of {K : PySem.W.Frag} {H : Hp} {a : Addr} {ns : List Int} (hO : Only H) (h : SqL K H a (ns.map V.int)) : ScrAt K H a ns := by
  rcases h with (h | ⟨o, h⟩) | h
  · rcases hO a with e | ⟨o, xs, e⟩
    · rw [e] at h
      cases h
    · rw [e] at h
      cases h
  · exact .inl ⟨o, h⟩
  · exact .inr h
theorem ScrAt.but {K : PySem.W.Frag} {H H' : Hp} {a : Addr} {ns : List Int} (h : ScrAt K H a ns) (s : Same H H') : ScrAt K H' a ns := by
  rcases h with ⟨o, h⟩ | h
  · exact .inl ⟨o, s _ _ h⟩
  · exact .inr h
theorem ScrAt.put {K : PySem.W.Frag} {H : Hp} {a b : Addr} {ns : List Int} {xs : List V} {o : HO} (h : ScrAt K H a ns) (e : H b = some (.lst xs)) : ScrAt K (upd H b o) a ns := by
  rcases h with ⟨x, h⟩ | h
  · have n : a ≠ b := ne_of h e (by intro z; cases z)
    exact .inl ⟨x, by rw [upd_ne n]; exact h⟩
  · exact .inr h
theorem ScrAt.of {K : PySem.W.Frag} {H H' : Hp} {a : Addr} {ns : List Int} (h : ScrAt K H a ns) (s : ∀ b o u, H b = some (.frz o u) → H' b = some (.frz o u)) : ScrAt K H' a ns := by
  rcases h with ⟨x, h⟩ | h
  · exact .inl ⟨x, s _ _ _ h⟩
  · exact .inr h
def RowAt (K : PySem.W.Frag) (H : Hp) (r : Addr) : Prop := ∃ (a : Addr) (ns : List Int) (pos mix : Int), 0 ≤ pos ∧ H r = some (.lst [.ref a, .int pos, .int mix]) ∧ ScrAt K H a ns
theorem RowAt.but {K : PySem.W.Frag} {H H' : Hp} {r : Addr} (h : RowAt K H r) (s : Same H H') : RowAt K H' r := by
  obtain ⟨a, ns, pos, mix, h1, h2, h3⟩ := h
  exact ⟨a, ns, pos, mix, h1, s _ _ h2, h3.but s⟩
theorem RowAt.put {K : PySem.W.Frag} {H : Hp} {r b : Addr} {xs : List V} {o : HO} (h : RowAt K H r) (n : b ≠ r) (e : H b = some (.lst xs)) : RowAt K (upd H b o) r := by
  obtain ⟨a, ns, pos, mix, h1, h2, h3⟩ := h
  exact ⟨a, ns, pos, mix, h1, by rw [upd_ne n.symm]; exact h2, h3.put e⟩
theorem row_start {K : PySem.W.Frag} {H : Hp} {a r : Addr} {ns : List Int} (h : ScrAt K H a ns) (e : H r = none) : RowAt K (upd H r (.lst [.ref a, .int 0, .int 0])) r := ⟨a, ns, 0, 0, Int.le_refl _, upd_same, h.but (same_new e)⟩
theorem same_sb {G H H' : Hp} {r : Addr} (s : Same G H) (e : G r = none) (b : SameBut r H H') : Same G H' := fun c o q => b c o (ne_of_none q e) (s _ _ q)
theorem RowAt.some {K : PySem.W.Frag} {H : Hp} {r : Addr} (h : RowAt K H r) : ∃ o, H r = Option.some o := by
  obtain ⟨a, ns, pos, mix, h1, h2, h3⟩ := h
  exact ⟨_, h2⟩
theorem RowAt.ne {K : PySem.W.Frag} {H : Hp} {r p : Addr} (h : RowAt K H r) (e : H p = none) : p ≠ r := fun z => by
  obtain ⟨o, h⟩ := h.some
  rw [z, h] at e
  cases e

/-! ### max(ns, default=0) -/
def maxl : List Int → Int
  | [] => 0
  | n :: r => r.foldl max n
theorem reads_int {h : Heap} {v : Value} {n : Int} {as : List Addr} (r : Reads h v (.int n) as) : ∃ t, v = .int n t := by
  cases r
  exact ⟨_, rfl⟩
theorem alike_ints_all (ns : List Int) : PySem.W.AlikeAll (ns.map PyData.int) := by
  refine ⟨fun x hx y hy => ?_, fun x hx => ?_⟩
  · obtain ⟨i, _, rfl⟩ := List.mem_map.mp hx
    obtain ⟨j, _, rfl⟩ := List.mem_map.mp hy
    simp [PySem.W.alike]
  · obtain ⟨i, _, rfl⟩ := List.mem_map.mp hx
    exact fun z => by cases z
def rMaxD0 (K : PySem.W.Frag) : List V → List V → Hp → VK → Prop := fun vs zs H Q => ∃ (a : Addr) (ns : List Int), vs = [V.ref a] ∧ zs = [.int 0] ∧ SqL K H a (ns.map V.int) ∧ Q (.int (maxl ns)) H
section
variable {X : Cx}
theorem cr_maxD0 (hc : X.calm = true) (hu : X.A.units + 1 < cLine) : CallRK X (.builtin "max") [Str.ofString "default"] (rMaxD0 X.K) := by
  intro pins s σ H xs zs us ws Q I r rz h
  obtain ⟨a, ns, rfl, rfl, hs, q⟩ := h
  obtain ⟨its, rv, hl, _⟩ := I.list hs
  rw [Vals.ref1 r]
  cases rz with
  | cons rz1 rz2 =>
    cases rz2
    obtain ⟨t, rfl⟩ := rz1
    obtain ⟨as, hr⟩ := Dp.readsAll I (ns.map PyData.int) _ its (dpa_ints ns) rv
    refine PySem.W.max_list_default (I.ok.hd hc) hl.isList (by simpa using hr) (alike_ints_all ns) (by rw [PySem.W.depth_ints]; exact hu) (fun e h' tk hk => ?_) fun y ys i v h' tk bs e hv hread hk => ?_
    · have e0 : ns = [] := by
        cases ns with
        | nil => rfl
        | cons n r => cases e
      subst e0
      exact ⟨.int 0, H, I.kept hk, ⟨_, rfl⟩, q⟩
    · obtain ⟨n, r, rfl, rfl, rfl⟩ : ∃ n r, ns = n :: r ∧ y = .int n ∧ ys = r.map PyData.int := by
        cases ns with
        | nil => cases e
        | cons n r =>
          rw [List.map_cons] at e
          injection e with e1 e2
          exact ⟨n, r, rfl, e1.symm, e2.symm⟩
      rw [PySem.W.maxD_ints] at hread
      obtain ⟨t', rfl⟩ := reads_int hread
      exact ⟨.int (maxl (n :: r)), H, I.kept hk, ⟨_, rfl⟩, q⟩
end
end Ag

namespace Ag
open PySem PySem.Spec PyProof.Rows L2

/-! ### the mathematics: when an ask is done -/
def iabs (i : Int) : Int := if i < 0 then -i else i
def imax (i j : Int) : Int := if j > i then j else i
def serve (d : Disk) (now here : Int) (a : Ask) : Int :=
  imax now a.1 + iabs (a.2.1 - here) * d.pa + (a.2.2 - (imax now a.1 + iabs (a.2.1 - here) * d.pa)) % d.sc + 1
theorem iabs_nn (i : Int) : 0 ≤ iabs i := by
  unfold iabs
  split <;> omega
theorem imax_l (i j : Int) : i ≤ imax i j := by
  unfold imax
  split <;> omega
theorem imax_r (i j : Int) : j ≤ imax i j := by
  unfold imax
  split <;> omega
theorem serve_lb {d : Disk} (g : GoodDisk d) (now here : Int) (a : Ask) : imax now a.1 + 1 ≤ serve d now here a := by
  unfold serve
  have h1 : 0 ≤ iabs (a.2.1 - here) * d.pa := Int.mul_nonneg (iabs_nn _) (by have := g.p1; omega)
  have h2 := Int.emod_nonneg (a.2.2 - (imax now a.1 + iabs (a.2.1 - here) * d.pa)) (b := d.sc) (by have := g.s1; omega)
  omega
/-- rows: (number, when it is done), in an order -/
def rowsOf (d : Disk) (asks : List Ask) : Int → Int → List Nat → List (Nat × Int)
  | _, _, [] => []
  | now, here, i :: r => (i, serve d now here (asks.getD i (0, 0, 0))) :: rowsOf d asks (serve d now here (asks.getD i (0, 0, 0))) (asks.getD i (0, 0, 0)).2.1 r
def dRow (r : Nat × Int) : PyData := .tuple ([(r.1 : Int), r.2].map PyData.int)
def endOf (d : Disk) (asks : List Ask) : Int → Int → List Nat → Int × Int
  | now, here, [] => (now, here)
  | now, here, i :: r => endOf d asks (serve d now here (asks.getD i (0, 0, 0))) (asks.getD i (0, 0, 0)).2.1 r
theorem rowsOf_snoc (d : Disk) (asks : List Ask) (i : Nat) : ∀ (r : List Nat) (now here : Int), rowsOf d asks now here (r ++ [i]) = rowsOf d asks now here r ++ [(i, serve d (endOf d asks now here r).1 (endOf d asks now here r).2 (asks.getD i (0, 0, 0)))]
  | [], _, _ => rfl
  | j :: r, now, here => by
    show _ :: rowsOf d asks _ _ (r ++ [i]) = _
    rw [rowsOf_snoc d asks i r]
    rfl
theorem endOf_snoc (d : Disk) (asks : List Ask) (i : Nat) : ∀ (r : List Nat) (now here : Int), endOf d asks now here (r ++ [i]) = (serve d (endOf d asks now here r).1 (endOf d asks now here r).2 (asks.getD i (0, 0, 0)), (asks.getD i (0, 0, 0)).2.1)
  | [], _, _ => rfl
  | j :: r, now, here => endOf_snoc d asks i r _ _
theorem rowsOf_len (d : Disk) (asks : List Ask) : ∀ (r : List Nat) (now here : Int), (rowsOf d asks now here r).length = r.length
  | [], _, _ => rfl
  | j :: r, now, here => by
    show (rowsOf d asks _ _ r).length + 1 = r.length + 1
    rw [rowsOf_len d asks r]
theorem rowsOf_fst (d : Disk) (asks : List Ask) : ∀ (r : List Nat) (now here : Int), (rowsOf d asks now here r).map (·.1) = r
  | [], _, _ => rfl
  | j :: r, now, here => by
    show j :: (rowsOf d asks _ _ r).map (·.1) = j :: r
    rw [rowsOf_fst d asks r]
/-- how far the arm goes -/
def wayOf (asks : List Ask) : Int → List (Nat × Int) → Int
  | _, [] => 0
  | here, r :: rest => iabs ((asks.getD r.1 (0, 0, 0)).2.1 - here) + wayOf asks (asks.getD r.1 (0, 0, 0)).2.1 rest
def hereOf (asks : List Ask) : Int → List (Nat × Int) → Int
  | here, [] => here
  | _, r :: rest => hereOf asks (asks.getD r.1 (0, 0, 0)).2.1 rest
theorem wayOf_snoc (asks : List Ask) (x : Nat × Int) : ∀ (rs : List (Nat × Int)) (here : Int), wayOf asks here (rs ++ [x]) = wayOf asks here rs + iabs ((asks.getD x.1 (0, 0, 0)).2.1 - hereOf asks here rs)
  | [], here => by
    show iabs _ + 0 = 0 + iabs _
    simp [hereOf]
  | r :: rs, here => by
    show iabs _ + wayOf asks _ (rs ++ [x]) = iabs _ + wayOf asks _ rs + _
    rw [wayOf_snoc asks x rs]
    simp only [hereOf]
    omega
theorem hereOf_snoc (asks : List Ask) (x : Nat × Int) : ∀ (rs : List (Nat × Int)) (here : Int), hereOf asks here (rs ++ [x]) = (asks.getD x.1 (0, 0, 0)).2.1
  | [], here => rfl
  | r :: rs, here => hereOf_snoc asks x rs _
def waitOf (asks : List Ask) (r : Nat × Int) : Int := r.2 - (asks.getD r.1 (0, 0, 0)).1
def waitsOf (asks : List Ask) (rs : List (Nat × Int)) : List Int := rs.map (waitOf asks)
/-- (way, longest, all) -/
def costsOf (d : Disk) (asks : List Ask) (rs : List (Nat × Int)) : Int × Int × Int := (wayOf asks d.he rs, maxl (waitsOf asks rs), (waitsOf asks rs).sum)
def dCosts (c : Int × Int × Int) : PyData := .tuple ([c.1, c.2.1, c.2.2].map PyData.int)
def dRes (rs : List (Nat × Int)) (c : Int × Int × Int) : PyData := .tuple [.list (rs.map dRow), dCosts c]
theorem foldl_max_le (m : Int) : ∀ (l : List Int) (n : Int), m ≤ n → m ≤ l.foldl max n
  | [], n, h => h
  | x :: r, n, h => foldl_max_le m r (max n x) (by omega)
/-- max([0] + waits) is the same where no wait is below 0 -/
theorem maxl_zero : ∀ (l : List Int), (∀ x ∈ l, 0 ≤ x) → maxl (0 :: l) = maxl l
  | [], _ => rfl
  | x :: r, h => by
    show r.foldl max (max 0 x) = r.foldl max x
    have hx := h x List.mem_cons_self
    rw [show max 0 x = x by omega]
theorem end_here (d : Disk) (asks : List Ask) : ∀ (r : List Nat) (now here : Int), (endOf d asks now here r).2 = hereOf asks here (rowsOf d asks now here r)
  | [], _, _ => rfl
  | i :: r, now, here => end_here d asks r _ _
theorem rows_waits {d : Disk} (g : GoodDisk d) (asks : List Ask) : ∀ (r : List Nat) (now here : Int), ∀ x ∈ waitsOf asks (rowsOf d asks now here r), 1 ≤ x
  | [], _, _, x, hx => by simp [rowsOf, waitsOf] at hx
  | i :: r, now, here, x, hx => by
    unfold rowsOf waitsOf at hx
    rw [List.map_cons, List.mem_cons] at hx
    rcases hx with rfl | hx
    · have h1 := serve_lb g now here (asks.getD i (0, 0, 0))
      have h2 := imax_r now (asks.getD i (0, 0, 0)).1
      show 1 ≤ serve d now here (asks.getD i (0, 0, 0)) - (asks.getD i (0, 0, 0)).1
      omega
    · exact rows_waits g asks r _ _ x hx
/-! ### step by step: what the law does -/
theorem iabs_step {t h : Int} (ne : h ≠ t) : iabs (t - (h + (if t < h then -1 else 1))) = iabs (t - h) - 1 := by
  unfold iabs
  split <;> split <;> split <;> omega
theorem emod_step {s n c : Int} (hc : 0 < c) (hs0 : 0 ≤ s) (hs : s < c) (ne : n % c ≠ s) : (s - (n + 1)) % c = (s - n) % c - 1 ∧ 0 < (s - n) % c := by
  have h0 := Int.emod_nonneg (s - n) (b := c) (by omega)
  have h1 := Int.emod_lt_of_pos (s - n) hc
  have hz : (s - n) % c ≠ 0 := fun e => by
    have d : c ∣ s - n := Int.dvd_of_emod_eq_zero e
    obtain ⟨k, hk⟩ := d
    have e2 : n = s + c * (-k) := by
      rw [Int.mul_neg]
      omega
    rw [e2, Int.add_mul_emod_self_left, Int.emod_eq_of_lt hs0 hs] at ne
    exact ne rfl
  refine ⟨?_, by omega⟩
  have e : s - (n + 1) = ((s - n) % c - 1) + c * ((s - n) / c) := by
    have := Int.mul_ediv_add_emod (s - n) c
    omega
  rw [e, Int.add_mul_emod_self_left]
  exact Int.emod_eq_of_lt (by omega) (by omega)
theorem emod_end {s n c : Int} (hs : n % c = s) : (s - n) % c = 0 := by
  rw [← hs]
  have := Int.mul_ediv_add_emod n c
  have e : n % c - n = 0 + c * (-(n / c)) := by
    rw [Int.mul_neg]
    omega
  rw [e, Int.add_mul_emod_self_left]
  simp
end Ag

namespace Ag
open PySem PySem.Spec PyProof.Rows L2

/-! ### min of alike data: the first of the least -/
theorem minD_mem (x : PyData) (xs : List PyData) : PySem.W.minD x xs ∈ x :: xs := by
  have go : ∀ (xs : List PyData) (x : PyData), xs.foldl (fun a y => if PySem.W.dataLt y a then y else a) x ∈ x :: xs := by
    intro xs
    induction xs with
    | nil => intro x; exact List.mem_cons_self
    | cons y r ih =>
      intro x
      show r.foldl _ (if PySem.W.dataLt y x then y else x) ∈ x :: y :: r
      have h := ih (if PySem.W.dataLt y x then y else x)
      rcases List.mem_cons.mp h with h | h
      · rw [h]
        split
        · exact List.mem_cons_of_mem _ List.mem_cons_self
        · exact List.mem_cons_self
      · exact List.mem_cons_of_mem _ (List.mem_cons_of_mem _ h)
  exact go xs x
/-- min(xs): some item whose data is the least -/
def rMinD (K : PySem.W.Frag) (A : Around) : List V → Hp → VK → Prop := fun vs H Q => ∃ (a : Addr) (xs : List V) (d : PyData) (ds : List PyData), vs = [V.ref a] ∧ SqL K H a xs ∧ DpAll K H xs (d :: ds) ∧ PySem.W.AlikeAll (d :: ds) ∧ A.units + 1 + PyData.depthAll (d :: ds) < cLine ∧
  ∀ (i : Nat) (v : V), xs[i]? = some v → (d :: ds)[i]? = some (PySem.W.minD d ds) → Q v H
section
variable {X : Cx}
theorem cr_minD (hc : X.calm = true) : CallR X (.builtin "min") (rMinD X.K X.A) := by
  intro pins s σ H xs us Q I r h
  obtain ⟨a, xs, d, ds, rfl, hs, hda, hal, hu, q⟩ := h
  obtain ⟨its, rv, hl, _⟩ := I.list hs
  rw [Vals.ref1 r]
  obtain ⟨as, hr⟩ := Dp.readsAll I (d :: ds) _ its hda rv
  refine PySem.W.min_list_data (I.ok.hd hc) hl.isList (by simpa using hr) hal hu fun i v h' tk bs hv hread hk => ?_
  have hv' : its[i]? = some v := by simpa using hv
  have hlen := rv.length
  obtain ⟨x, hx⟩ : ∃ x, xs[i]? = some x := by
    have := (List.getElem?_eq_some_iff.mp hv').1
    exact ⟨_, List.getElem?_eq_getElem (by omega)⟩
  obtain ⟨u, hu', ru⟩ := rv.get hx
  rw [hv'] at hu'
  cases hu'
  have I' : Inv X pins σ H { s with heap := h', toks := tk } := I.kept hk
  obtain ⟨e, he, hed⟩ := dpa_get' hda hx
  obtain ⟨as', hr'⟩ := Dp.reads I' e x v hed ru
  have em : e = PySem.W.minD d ds := PySem.W.alike_unique e _ v as' bs (hal.1 e (List.mem_of_getElem? he) _ (minD_mem d ds)) hr' hread
  rw [em] at he
  exact ⟨x, H, I', ru, q i x hx he⟩
end
/-! ### a number in an order -/
theorem inV_nints (n : Nat) : ∀ os : List Nat, inV (.int (n : Int)) ((nints os).map V.int) = decide (n ∈ os)
  | [] => by simp [inV, nints]
  | m :: r => by
    have ih := inV_nints n r
    unfold inV nints at ih ⊢
    rw [List.map_cons, List.map_cons, List.any_cons, ih]
    show ((m : Int) == (n : Int) || decide (n ∈ r)) = decide (n ∈ m :: r)
    by_cases h : n = m
    · subst h
      simp
    · have : ((m : Int) == (n : Int)) = false := by
        simp
        omega
      rw [this]
      simp [h]
theorem flat_nints : ∀ os : List Nat, ((nints os).map V.int).all flatV = true
  | [] => rfl
  | m :: r => by
    have ih := flat_nints r
    unfold nints at ih ⊢
    rw [List.map_cons, List.map_cons, List.all_cons, ih]
    rfl
/-! ### all orders, one number more a turn -/
def moreOf (n : Nat) (os : List Nat) : List (List Nat) := ((List.range n).filter fun i => decide (i ∉ os)).map fun i => os ++ [i]
def ordersK (n : Nat) : Nat → List (List Nat)
  | 0 => [[]]
  | k + 1 => (ordersK n k).flatMap (moreOf n)
theorem moreOf_mem {n : Nat} {os os' : List Nat} : os' ∈ moreOf n os ↔ ∃ i, i < n ∧ i ∉ os ∧ os' = os ++ [i] := by
  unfold moreOf
  rw [List.mem_map]
  constructor
  · rintro ⟨i, hi, rfl⟩
    rw [List.mem_filter, List.mem_range, decide_eq_true_eq] at hi
    exact ⟨i, hi.1, hi.2, rfl⟩
  · rintro ⟨i, h1, h2, rfl⟩
    exact ⟨i, by rw [List.mem_filter, List.mem_range, decide_eq_true_eq]; exact ⟨h1, h2⟩, rfl⟩
structure IsOrd (n k : Nat) (os : List Nat) : Prop where
  len : os.length = k
  lt : ∀ i ∈ os, i < n
  nd : os.Nodup
theorem ordersK_is {n : Nat} : ∀ {k : Nat} {os : List Nat}, os ∈ ordersK n k → IsOrd n k os
  | 0, os, h => by
    rw [List.mem_singleton.mp (show os ∈ [[]] from h)]
    exact ⟨rfl, fun i hi => absurd hi (by simp), List.nodup_nil⟩
  | k + 1, os, h => by
    obtain ⟨o, ho, hm⟩ := List.mem_flatMap.mp h
    obtain ⟨i, h1, h2, rfl⟩ := moreOf_mem.mp hm
    have ih := ordersK_is ho
    refine ⟨by rw [List.length_append, ih.len]; rfl, fun j hj => ?_, ?_⟩
    · rcases List.mem_append.mp hj with hj | hj
      · exact ih.lt j hj
      · rw [List.mem_singleton.mp hj]
        exact h1
    · rw [List.nodup_append]
      refine ⟨ih.nd, by simp, fun a ha b hb => ?_⟩
      rw [List.mem_singleton.mp hb]
      exact fun e => h2 (e ▸ ha)
theorem ordersK_of {n : Nat} : ∀ {k : Nat} {os : List Nat}, IsOrd n k os → os ∈ ordersK n k
  | 0, os, h => by
    have e : os = [] := List.eq_nil_of_length_eq_zero h.len
    subst e
    exact List.mem_singleton.mpr rfl
  | k + 1, os, h => by
    have hne : os ≠ [] := fun e => by
      have := h.len
      rw [e] at this
      cases this
    obtain ⟨o, i, rfl⟩ : ∃ o i, os = o ++ [i] := ⟨os.dropLast, os.getLast hne, (List.dropLast_concat_getLast hne).symm⟩
    have hl := h.len
    rw [List.length_append] at hl
    have hl' : o.length = k := by
      simp at hl
      exact hl
    have nd := h.nd
    rw [List.nodup_append] at nd
    refine List.mem_flatMap.mpr ⟨o, ordersK_of ⟨hl', fun j hj => h.lt j (List.mem_append_left _ hj), nd.1⟩, moreOf_mem.mpr ⟨i, h.lt i (by simp), fun hi => nd.2.2 i hi i (by simp) rfl, rfl⟩⟩
theorem isOrd_range {n : Nat} : IsOrd n n (List.range n) := ⟨List.length_range, fun i hi => List.mem_range.mp hi, List.nodup_range⟩
theorem isOrd_take {n k : Nat} (h : k ≤ n) : IsOrd n k (List.range k) := ⟨List.length_range, fun i hi => by have := List.mem_range.mp hi; omega, List.nodup_range⟩
theorem ordersK_ne {n k : Nat} (h : k ≤ n) : ordersK n k ≠ [] := List.ne_nil_of_mem (ordersK_of (isOrd_take h))
theorem moreOf_len (n : Nat) (os : List Nat) : (moreOf n os).length ≤ n := by
  unfold moreOf
  rw [List.length_map]
  exact Nat.le_trans (List.length_filter_le _ _) (by rw [List.length_range]; exact Nat.le_refl _)
theorem flat_len {α β : Type} (f : α → List β) (c : Nat) : ∀ l : List α, (∀ x ∈ l, (f x).length ≤ c) → (l.flatMap f).length ≤ l.length * c
  | [], _ => by simp
  | x :: r, h => by
    rw [List.flatMap_cons, List.length_append, List.length_cons, Nat.add_mul, Nat.one_mul]
    have h1 := h x List.mem_cons_self
    have h2 := flat_len f c r fun y hy => h y (List.mem_cons_of_mem _ hy)
    omega
theorem ordersK_len (n : Nat) : ∀ k : Nat, (ordersK n k).length ≤ n ^ k
  | 0 => by simp [ordersK]
  | k + 1 => by
    have h := flat_len (moreOf n) n (ordersK n k) fun x _ => moreOf_len n x
    have ih := ordersK_len n k
    have h2 := Nat.mul_le_mul_right n ih
    rw [Nat.pow_succ]
    exact Nat.le_trans h h2
theorem ordersK_len6 {n k : Nat} (hn : n ≤ 6) (hk : k ≤ 6) : (ordersK n k).length ≤ 46656 := by
  refine Nat.le_trans (ordersK_len n k) ?_
  have h1 : n ^ k ≤ 6 ^ k := Nat.pow_le_pow_left hn k
  have h2 : 6 ^ k ≤ 6 ^ 6 := Nat.pow_le_pow_right (by decide) hk
  exact Nat.le_trans h1 (Nat.le_trans h2 (by decide))
/-! ### all waits together, and its least -/
def allOf (d : Disk) (l : List Ask) (os : List Nat) : Int := (waitsOf l (rowsOf d l 0 d.he os)).sum
theorem allOf_snoc (d : Disk) (l : List Ask) (os : List Nat) (i : Nat) : allOf d l (os ++ [i]) = allOf d l os + serve d (endOf d l 0 d.he os).1 (endOf d l 0 d.he os).2 (l.getD i (0, 0, 0)) - (l.getD i (0, 0, 0)).1 := by
  unfold allOf
  rw [rowsOf_snoc]
  unfold waitsOf
  rw [List.map_append, List.sum_append]
  show _ + ((serve d (endOf d l 0 d.he os).1 (endOf d l 0 d.he os).2 (l.getD i (0, 0, 0)) - (l.getD i (0, 0, 0)).1) + 0) = _
  omega
def dSum (d : Disk) (l : List Ask) (os : List Nat) : PyData := .tuple [.int (allOf d l os), .list ((nints os).map PyData.int)]
theorem alike_sums (d : Disk) (l : List Ask) (oss : List (List Nat)) : PySem.W.AlikeAll (oss.map (dSum d l)) := by
  refine ⟨fun x hx y hy => ?_, fun x hx => ?_⟩
  · obtain ⟨o, _, rfl⟩ := List.mem_map.mp hx
    obtain ⟨o', _, rfl⟩ := List.mem_map.mp hy
    simp [dSum, PySem.W.alike, PySem.W.alikeAll, PySem.W.alike_ints]
  · obtain ⟨o, _, rfl⟩ := List.mem_map.mp hx
    exact fun z => by cases z
theorem depth_sums (d : Disk) (l : List Ask) : ∀ oss : List (List Nat), PyData.depthAll (oss.map (dSum d l)) ≤ 2
  | [] => by simp [PyData.depthAll]
  | o :: r => by
    have h := depth_sums d l r
    have e : PyData.depth (dSum d l o) = 2 := by
      unfold dSum
      simp [PyData.depth, PyData.depthAll, PySem.W.depth_ints]
    rw [List.map_cons, PyData.depthAll, e]
    omega
/-- the least of all orders -/
def leastOf (d : Disk) (l : List Ask) : PyData := match (ordersK l.length l.length).map (dSum d l) with
  | [] => .none
  | x :: r => PySem.W.minD x r
theorem leastOf_eq {d : Disk} {l : List Ask} {x : PyData} {r : List PyData} (h : (ordersK l.length l.length).map (dSum d l) = x :: r) : leastOf d l = PySem.W.minD x r := by
  unfold leastOf
  rw [h]
end Ag

namespace Ag
open PySem PySem.Spec PyProof.Rows L2
theorem ite_eqb {b c : Bool} {A B : Prop} (e : b = c) (h : if c = true then A else B) : if b = true then A else B := by
  rw [e]
  exact h
/-! ### two lists side by side -/
def All2 {α β : Type} (R : α → β → Prop) : List α → List β → Prop
  | [], [] => True
  | a :: as, b :: bs => R a b ∧ All2 R as bs
  | _, _ => False
theorem all2_len {α β : Type} {R : α → β → Prop} : ∀ {as : List α} {bs : List β}, All2 R as bs → as.length = bs.length
  | [], [], _ => rfl
  | _ :: _, _ :: _, h => by simp only [List.length_cons, all2_len h.2]
  | [], _ :: _, h => h.elim
  | _ :: _, [], h => h.elim
theorem all2_mono {α β : Type} {R S : α → β → Prop} (k : ∀ a b, R a b → S a b) : ∀ {as : List α} {bs : List β}, All2 R as bs → All2 S as bs
  | [], [], _ => trivial
  | _ :: _, _ :: _, h => ⟨k _ _ h.1, all2_mono k h.2⟩
  | [], _ :: _, h => h.elim
  | _ :: _, [], h => h.elim
theorem all2_snoc {α β : Type} {R : α → β → Prop} {a : α} {b : β} (r : R a b) : ∀ {as : List α} {bs : List β}, All2 R as bs → All2 R (as ++ [a]) (bs ++ [b])
  | [], [], _ => ⟨r, trivial⟩
  | _ :: _, _ :: _, h => ⟨h.1, all2_snoc r h.2⟩
  | [], _ :: _, h => h.elim
  | _ :: _, [], h => h.elim
theorem all2_app {α β : Type} {R : α → β → Prop} {cs : List α} {ds : List β} (r : All2 R cs ds) : ∀ {as : List α} {bs : List β}, All2 R as bs → All2 R (as ++ cs) (bs ++ ds)
  | [], [], _ => r
  | _ :: _, _ :: _, h => ⟨h.1, all2_app r h.2⟩
  | [], _ :: _, h => h.elim
  | _ :: _, [], h => h.elim
theorem all2_at {α β : Type} {R : α → β → Prop} : ∀ {as : List α} {bs : List β} {i : Nat} {a : α}, All2 R as bs → as[i]? = some a → ∃ b, bs[i]? = some b ∧ R a b
  | [], [], _, _, _, e => by simp at e
  | _ :: _, _ :: _, 0, _, h, e => by simp at e; subst e; exact ⟨_, rfl, h.1⟩
  | _ :: _, _ :: _, i + 1, _, h, e => by
    obtain ⟨b, e1, r⟩ := all2_at (i := i) h.2 (by simpa using e)
    exact ⟨b, by simpa using e1, r⟩
  | [], _ :: _, _, _, h, _ => h.elim
  | _ :: _, [], _, _, h, _ => h.elim
theorem all2_at' {α β : Type} {R : α → β → Prop} : ∀ {as : List α} {bs : List β} {i : Nat} {b : β}, All2 R as bs → bs[i]? = some b → ∃ a, as[i]? = some a ∧ R a b
  | [], [], _, _, _, e => by simp at e
  | _ :: _, _ :: _, 0, _, h, e => by simp at e; subst e; exact ⟨_, rfl, h.1⟩
  | _ :: _, _ :: _, i + 1, _, h, e => by
    obtain ⟨b, e1, r⟩ := all2_at' (i := i) h.2 (by simpa using e)
    exact ⟨b, by simpa using e1, r⟩
  | [], _ :: _, _, _, h, _ => h.elim
  | _ :: _, [], _, _, h, _ => h.elim
theorem all2_dpa {K : PySem.W.Frag} {H : Hp} {β : Type} {R : V → β → Prop} {f : β → PyData} (k : ∀ v b, R v b → Dp K H v (f b)) : ∀ {vs : List V} {bs : List β}, All2 R vs bs → DpAll K H vs (bs.map f)
  | [], [], _ => .nil
  | _ :: _, _ :: _, h => .cons (k _ _ h.1) (all2_dpa k h.2)
  | [], _ :: _, h => h.elim
  | _ :: _, [], h => h.elim
/-- an order, as a list of its own -/
def OrdAt (G : Hp) (v : V) (os : List Nat) : Prop := ∃ o, v = .ref o ∧ G o = some (.lst ((nints os).map V.int))
theorem ordAt_same {G G' : Hp} {v : V} {os : List Nat} (s : Same G G') (h : OrdAt G v os) : OrdAt G' v os := by
  obtain ⟨o, e, h⟩ := h
  exact ⟨o, e, s _ _ h⟩
theorem ordAt_dp {K : PySem.W.Frag} {G : Hp} {v : V} {os : List Nat} (h : OrdAt G v os) : Dp K G v (.list ((nints os).map PyData.int)) := by
  obtain ⟨o, rfl, h⟩ := h
  exact dp_ints_of (SqL.of h)
/-- (waits, order) -/
def SumAt (d : Disk) (l : List Ask) (G : Hp) (v : V) (os : List Nat) : Prop := ∃ m o, v = .ref m ∧ G m = some (.tup [.int (allOf d l os), .ref o]) ∧ G o = some (.lst ((nints os).map V.int))
theorem sumAt_same {d : Disk} {l : List Ask} {G G' : Hp} {v : V} {os : List Nat} (s : Same G G') (h : SumAt d l G v os) : SumAt d l G' v os := by
  obtain ⟨m, o, e, h1, h2⟩ := h
  exact ⟨m, o, e, s _ _ h1, s _ _ h2⟩
theorem sumAt_dp {K : PySem.W.Frag} {d : Disk} {l : List Ask} {G : Hp} {v : V} {os : List Nat} (h : SumAt d l G v os) : Dp K G v (dSum d l os) := by
  obtain ⟨m, o, rfl, h1, h2⟩ := h
  exact .tup (SqT.of h1) (.cons (.int _) (.cons (dp_ints_of (SqL.of h2)) .nil))
/-- ((waits, order), now, here) -/
def LvlAt (d : Disk) (l : List Ask) (G : Hp) (v : V) (os : List Nat) : Prop := ∃ t m, v = .ref t ∧ G t = some (.tup [.ref m, .int (endOf d l 0 d.he os).1, .int (endOf d l 0 d.he os).2]) ∧ SumAt d l G (.ref m) os
theorem lvlAt_same {d : Disk} {l : List Ask} {G G' : Hp} {v : V} {os : List Nat} (s : Same G G') (h : LvlAt d l G v os) : LvlAt d l G' v os := by
  obtain ⟨t, m, e, h1, h2⟩ := h
  exact ⟨t, m, e, s _ _ h1, sumAt_same s h2⟩
theorem take_flat {α β : Type} {f : α → List β} {l : List α} {i : Nat} {x : α} (h : l[i]? = some x) : (l.take (i + 1)).flatMap f = (l.take i).flatMap f ++ f x := by
  rw [take_more h, List.flatMap_append]
  simp
def moreTo (k : Nat) (os : List Nat) : List (List Nat) := ((List.range k).filter fun i => decide (i ∉ os)).map fun i => os ++ [i]
theorem moreTo_in {k : Nat} {os : List Nat} (h : k ∈ os) : moreTo (k + 1) os = moreTo k os := by
  unfold moreTo
  rw [List.range_succ, List.filter_append]
  simp [h]
theorem moreTo_out {k : Nat} {os : List Nat} (h : k ∉ os) : moreTo (k + 1) os = moreTo k os ++ [os ++ [k]] := by
  unfold moreTo
  rw [List.range_succ, List.filter_append]
  simp [h]
theorem nints_snoc (os : List Nat) (n : Nat) : (nints os).map V.int ++ [V.int (n : Int)] = (nints (os ++ [n])).map V.int := by
  unfold nints
  rw [List.map_append, List.map_append]
  rfl
end Ag

namespace Ag
open PySem PySem.Spec PyProof.Rows L2 TL
/-! ### asks as a text -/
def numS (n : Int) : Str := Str.ofString (toString n)
def spS : Str := Str.ofString " "
def nlS : Str := Str.ofString "\n"
def askNs (q : Ask) : List Int := [q.1, q.2.1, q.2.2]
def rowS (q : Ask) : Str := Txt.join spS ((askNs q).map numS)
def textS (l : List Ask) : Str := Txt.join nlS (l.map rowS)
/-- a number of no more than three figures -/
structure Few (n : Int) : Prop where
  lo : 0 ≤ n
  hi : n ≤ 999
theorem figs_all : ∀ n < 1000, 1 ≤ (numL n).length ∧ (numL n).length ≤ 3 ∧ (n ≠ 0 → (numL n).head? ≠ some 48) := by decide +kernel
theorem tl_numS {n : Int} (h : Few n) : ∃ k : Nat, k < 1000 ∧ n = (k : Int) ∧ tl (numS n) = numL k := by
  have h1 := h.lo
  have h2 := h.hi
  refine ⟨n.toNat, by omega, by omega, ?_⟩
  have : n = (n.toNat : Int) := by omega
  unfold numS
  rw [this]
  exact tl_num _
theorem numS_len {n : Int} (h : Few n) : 1 ≤ (numS n).length ∧ (numS n).length ≤ 3 := by
  obtain ⟨k, hk, rfl, e⟩ := tl_numS h
  rw [len_tl, e]
  exact ⟨(figs_all k hk).1, (figs_all k hk).2.1⟩
theorem numS_int {n : Int} (h : Few n) : intText? (numS n) = some n := by
  obtain ⟨k, hk, rfl, e⟩ := tl_numS h
  exact int_num (Nat.le_trans (figs_all k hk).2.1 (by decide))
theorem numS_free {n : Int} (h : Few n) {s : Nat} (hs : s < 48 ∨ 57 < s) : s ∉ tl (numS n) := by
  obtain ⟨k, hk, rfl, e⟩ := tl_numS h
  rw [e]
  exact numL_free hs
theorem numS_sign {n : Int} (h : Few n) {c : Nat} (hc : c ∈ tl (numS n)) : 48 ≤ c ∧ c ≤ 57 := by
  refine ⟨?_, ?_⟩
  · by_cases z : 48 ≤ c
    · exact z
    · exact absurd hc (numS_free h (.inl (by omega)))
  · by_cases z : c ≤ 57
    · exact z
    · exact absurd hc (numS_free h (.inr (by omega)))
theorem figures {c : Nat} (h : 48 ≤ c ∧ c ≤ 57) : c ∈ (Str.ofString "0123456789").cps.toList := by
  have e : (Str.ofString "0123456789").cps.toList = [48, 49, 50, 51, 52, 53, 54, 55, 56, 57] := by decide +kernel
  rw [e]
  obtain ⟨h1, h2⟩ := h
  rcases (by omega : c = 48 ∨ c = 49 ∨ c = 50 ∨ c = 51 ∨ c = 52 ∨ c = 53 ∨ c = 54 ∨ c = 55 ∨ c = 56 ∨ c = 57) with rfl | rfl | rfl | rfl | rfl | rfl | rfl | rfl | rfl | rfl <;> decide
/-- the first sign, and that a nought stands alone -/
theorem numS_head {n : Int} (h : Few n) : ∃ c, atI (numS n).cps.toList 0 = some c ∧ (c = 48 → numS n = Str.ofString "0") := by
  obtain ⟨k, hk, rfl, e⟩ := tl_numS h
  have f := figs_all k hk
  have e' : (numS (k : Int)).cps.toList = numL k := e
  cases hl : numL k with
  | nil => rw [hl] at f; exact absurd f.1 (by decide)
  | cons c r =>
    refine ⟨c, by rw [e', hl]; exact atI_nat (j := 0) rfl, fun z => ?_⟩
    by_cases h0 : k = 0
    · subst h0
      rfl
    · have := f.2.2 h0
      rw [hl, z] at this
      exact absurd rfl this
theorem tl_spS : tl spS = [32] := by decide +kernel
theorem tl_nlS : tl nlS = [10] := by decide +kernel
theorem askNs_few {d : Disk} {q : Ask} (gd : GoodDisk d) (g : GoodAsk d q) : ∀ n ∈ askNs q, Few n := by
  intro n hn
  have h1 := g.c1
  have h2 := g.c2
  have h3 := g.t1
  have h4 := g.t2
  have h5 := g.s1
  have h6 := g.s2
  have h7 := gd.t2
  have h8 := gd.s2
  unfold askNs at hn
  rcases List.mem_cons.mp hn with rfl | hn
  · exact ⟨h1, h2⟩
  · rcases List.mem_cons.mp hn with rfl | hn
    · exact ⟨h3, by omega⟩
    · rcases List.mem_cons.mp hn with rfl | hn
      · exact ⟨h5, by omega⟩
      · cases hn
theorem tl_rowS (q : Ask) : tl (rowS q) = tl (numS q.1) ++ (32 :: (tl (numS q.2.1) ++ (32 :: tl (numS q.2.2)))) := by
  unfold rowS
  rw [join_eq, tl_join, tl_spS]
  rfl
theorem rowS_law (q : Ask) : numS q.1 ++ spS ++ numS q.2.1 ++ spS ++ numS q.2.2 = rowS q := by
  refine ext_tl ?_
  rw [tl_rowS, tl_append, tl_append, tl_append, tl_append, tl_spS]
  simp
theorem rowS_len {q : Ask} (h : ∀ n ∈ askNs q, Few n) : 5 ≤ (rowS q).length ∧ (rowS q).length ≤ 11 := by
  have a := numS_len (h q.1 (by simp [askNs]))
  have b := numS_len (h q.2.1 (by simp [askNs]))
  have c := numS_len (h q.2.2 (by simp [askNs]))
  rw [len_tl] at a b c
  rw [len_tl, tl_rowS]
  simp only [List.length_append, List.length_cons]
  omega
theorem rowS_split {q : Ask} (h : ∀ n ∈ askNs q, Few n) : Txt.split (rowS q) spS = (askNs q).map numS := by
  refine split_join tl_spS (by decide +kernel) (by simp [askNs]) fun p hp => ?_
  obtain ⟨n, hn, rfl⟩ := List.mem_map.mp hp
  exact numS_free (h n hn) (.inl (by decide))
theorem rowS_free {q : Ask} (h : ∀ n ∈ askNs q, Few n) : 10 ∉ tl (rowS q) := by
  have a := numS_free (h q.1 (by simp [askNs])) (s := 10) (.inl (by decide))
  have b := numS_free (h q.2.1 (by simp [askNs])) (s := 10) (.inl (by decide))
  have c := numS_free (h q.2.2 (by simp [askNs])) (s := 10) (.inl (by decide))
  rw [tl_rowS]
  simp [a, b, c]
theorem textS_split {l : List Ask} (h : ∀ q ∈ l, ∀ n ∈ askNs q, Few n) (hl : l ≠ []) : Txt.split (textS l) nlS = l.map rowS := by
  refine split_join tl_nlS (by decide +kernel) (fun e => hl (List.map_eq_nil_iff.mp e)) fun p hp => ?_
  obtain ⟨q, hq, rfl⟩ := List.mem_map.mp hp
  exact rowS_free (h q hq)
theorem textS_nil : textS [] = Str.ofString "" := by decide +kernel
theorem joinL_len (S : List Nat) (k : Nat) : ∀ ps : List (List Nat), (∀ p ∈ ps, p.length ≤ k) → (joinL S ps).length ≤ ps.length * (k + S.length)
  | [], _ => Nat.zero_le _
  | [p], h => by
    show p.length ≤ 1 * (k + S.length)
    have := h p (by simp)
    omega
  | p :: q :: r, h => by
    have ih := joinL_len S k (q :: r) fun z hz => h z (List.mem_cons_of_mem _ hz)
    have := h p (by simp)
    show (p ++ (S ++ joinL S (q :: r))).length ≤ _
    rw [List.length_append, List.length_append, List.length_cons (a := p), Nat.succ_mul]
    omega
theorem textS_len {l : List Ask} (h : ∀ q ∈ l, ∀ n ∈ askNs q, Few n) (hl : l.length ≤ 40) : (textS l).length ≤ 480 := by
  unfold textS
  rw [len_tl, join_eq, tl_join, tl_nlS]
  have := joinL_len [10] 11 ((l.map rowS).map tl) fun p hp => by
    obtain ⟨x, hx, rfl⟩ := List.mem_map.mp hp
    obtain ⟨q, hq, rfl⟩ := List.mem_map.mp hx
    rw [← len_tl]
    exact (rowS_len (h q hq)).2
  rw [List.length_map, List.length_map] at this
  have e : ([10] : List Nat).length = 1 := rfl
  rw [e] at this
  omega
theorem textS_ne {l : List Ask} (h : ∀ q ∈ l, ∀ n ∈ askNs q, Few n) (hl : l ≠ []) : textS l ≠ Str.ofString "" := by
  intro e
  have e2 := textS_split h hl
  rw [e] at e2
  have : Txt.split (Str.ofString "") nlS = [Str.ofString ""] := by decide +kernel
  rw [this] at e2
  cases l with
  | nil => exact hl rfl
  | cons q r =>
    rw [List.map_cons] at e2
    injection e2 with e3 e4
    have := (rowS_len (h q (by simp))).1
    rw [← e3] at this
    exact absurd this (by decide +kernel)
theorem sum_len {k : Nat} : ∀ {ws : List Str}, (∀ x ∈ ws, x.length ≤ k) → (ws.map (·.length)).sum ≤ ws.length * k
  | [], _ => Nat.zero_le _
  | x :: r, h => by
    have ih := sum_len (ws := r) fun z hz => h z (List.mem_cons_of_mem _ hz)
    have := h x (by simp)
    rw [List.map_cons, List.sum_cons, List.length_cons, Nat.succ_mul]
    omega
/-- a comprehension over a text's signs -/
theorem lc_signs {x : Str} {g : TG} {tt : TT} {te : TE} {vs : List Nat} {σ : L2.St} {H1 : Hp} {D : Addr} {Qd : Hp → Prop} (Pv : Nat → Hp → Prop) (h0 : Pv 0 (upd H1 D (.lst [])))
    (hs : ∀ i c H, x.cps[i]? = some c → Pv i H → g (.str ⟨#[c]⟩) (wipe σ vs) H fun σ2 H2 => wipe σ2 vs = wipe σ vs ∧ tt σ2 H2 fun b H3 =>
      if b = true then te σ2 H3 fun y H4 => ∃ acc, H4 D = some (.lst acc) ∧ acc.length < sizeLine ∧ Pv (i + 1) (upd H4 D (.lst (acc ++ [y]))) else Pv (i + 1) H3) (hd : ∀ H, Pv x.cps.size H → Qd H) :
    ∃ W : Nat → Nat → Hp → Prop, (∃ m, W 0 m (upd H1 D (.lst []))) ∧ ∀ i m H, W i m H →
      ((Its x).stop i H ∧ Qd H) ∨ ((Its x).go i H ∧ ∃ Nx : Hp → Prop, (∀ H', Nx H' → ∃ m', m' < m ∧ W (i + 1) m' H') ∧ ∀ y H', (Its x).yld i H y H' → g y (wipe σ vs) H' fun σ2 H2 => wipe σ2 vs = wipe σ vs ∧ tt σ2 H2 fun b H3 =>
        if b = true then te σ2 H3 fun y H4 => ∃ acc, H4 D = some (.lst acc) ∧ acc.length < sizeLine ∧ Nx (upd H4 D (.lst (acc ++ [y]))) else Nx H3) := by
  refine ⟨fun i m H => m = x.cps.size - i ∧ i ≤ x.cps.size ∧ Pv i H, ⟨x.cps.size, by simp, Nat.zero_le _, h0⟩, ?_⟩
  rintro i m H ⟨rfl, hi, p⟩
  by_cases hlt : i < x.cps.size
  · refine .inr ⟨hlt, Pv (i + 1), fun H' p' => ⟨x.cps.size - (i + 1), by omega, rfl, hlt, p'⟩, fun y H' hy => ?_⟩
    obtain ⟨e, c, hc, rfl⟩ := hy
    subst e
    exact hs i c _ hc p
  · have e : i = x.cps.size := by omega
    subst e
    exact .inl ⟨Nat.le_refl _, hd H p⟩
def rJoinK (K : PySem.W.Frag) : V → List V → Hp → VK → Prop := fun x xs H Q => ∃ a p, ∃ ys : List Str, x = .str a ∧ xs = [.ref p] ∧ (SqL K H p (ys.map V.str) ∨ SqT K H p (ys.map V.str)) ∧
      (ys.map (·.length)).sum + ys.length * a.length ≤ 16777216 ∧ Q (.str (Txt.join a ys)) H
/-- join within a block -/
theorem pe_joinK {X : Cx} {o e : Expr} {to te : TE} {K : PySem.W.Frag} {apos pos : Pos} (ho : PE X o to) (he : PE X e te) (hK : X.K = K := by rfl) (hs : starEach [e] X.env = [(false, eval e X.env)] := by rfl) (hbase : attributeBase o "join" X.env (eval o X.env) = eval o X.env := by rfl) (hline : (apos.endLine == pos.line) = true := by rfl) :
    PE X (.Call (.Attribute o "join" apos) [e] [] pos) (tM1 (rJoinK K) to te) := by
  subst hK
  exact pe_join ho he hs hbase hline
theorem log2_small {n : Int} (h : Few n) : n.natAbs.log2 < 1920 := by
  have h1 := h.lo
  have h2 := h.hi
  by_cases z : n.natAbs = 0
  · rw [z]; decide
  · have := (Nat.log2_lt z (k := 10)).mpr (by omega)
    omega
end Ag

namespace Ag
open PySem PySem.Spec PyProof.Rows L2
/-! ### an exception out of a comprehension's element -/
/-- what a called def lets out, in a comprehension's block, goes on from the def's own hand -/
theorem comp_pass {X : Cx} {W : XK} {s3 s s' : Shared} {H3 H' : Hp} {scope : Scope} {ce : Env} {fp : List Addr} {xe : Value → Shared → Prop} {pins pin2 : List (Addr × Obj)} {σ σ' : L2.St} {e : Value}
    (hs : X.stack = X.env :: X.outer) (hf : X.env.frame = some X.env.locals) (cf : ce.frame = X.env.frame) (cL : ce.locals = s3.heap.objs.size) (tk : Takes X fun cls d _ H => W cls d H)
    (I3 : Inv X pins σ H3 s3) (f3 : ∀ b ∈ fp, FpOk X pins H3 b) (I' : Inv ((X.blk s3 H3 scope ce fp).wish xe) pin2 σ' H' s) (c : CX X.prog X.w X.stack H' s W e s') :
    notedBy (model X.prog X.w) X.A ce (CompFails (model X.prog X.w) X.A X.xe ce) e s' := by
  have Io : Inv X pins σ H' s := I3.call' (ch := fp) I'.os I'.base I'.hok I'.bare fun b hb => ⟨(f3 b hb).2.2.2.1, (f3 b hb).2.1, (f3 b hb).2.2.2.2.1, (f3 b hb).2.2.2.2.2⟩
  obtain ⟨a, B, H2, cls, d, rfl, fl, hok, ub, na, os, ag, hE⟩ := c
  have hfr : X.A.frames = some (X.env :: X.outer) := by rw [Io.ok.frames, hs]
  -- the block's dict of names
  obtain ⟨m, ⟨oC, es, ep, hoC, hdC, rC⟩, _⟩ := I'.loc
  have hoC : s.heap.get? ce.locals = some oC := hoC
  have nCf : ce.locals ∉ frs X.stack := fun hm => by
    obtain ⟨_, o2, e2, _⟩ := I3.stack.mem hm
    have := Heap.lt_size e2
    rw [cL] at this
    exact absurd this (Nat.lt_irrefl _)
  have nC : H' ce.locals = none := I'.free
  have bC : B.get? ce.locals = some oC := ub.keep _ _ hoC nC nCf
  have nC2 : H2 ce.locals = none := ub.free _ _ hoC nC
  have fC : FpOk X pins H' ce.locals := I3.fpOk (by rw [cL]; exact Nat.le_refl _) nC
  obtain ⟨B2, k1, k2⟩ := restrict B fun b => decide (b ≠ ce.locals)
  have kB : ∀ b, b ≠ ce.locals → B2.get? b = B.get? b := fun b hb => k1 b (decide_eq_true hb)
  have kC : B2.get? ce.locals = none := k2 _ (by simp)
  have sub : ∀ {b o}, B2.get? b = some o → b ≠ ce.locals ∧ B.get? b = some o := fun {b o} q => by
    have n : b ≠ ce.locals := fun z => by rw [z, kC] at q; cases q
    exact ⟨n, (kB b n).symm.trans q⟩
  show wpAny _ _ (noteFrame (.ref a) ce) _ _ s'
  rw [noteFrame_env _ cf]
  rw [hs] at fl
  refine HandSPX.looks_onZ Zc.steady hfr hf fl fun h1 hh up1 => ?_
  obtain ⟨g1, g2, g3, oe, vs, T, oT, ts, he, hz, hd, hv, hT0, hTe, hT, hdT, h3t⟩ := hh
  refine ⟨m, ⟨oC, es, ep, g1 _ _ bC, hdC, rC⟩, fun h2 m2 hn2 hs2 => ?_⟩
  have hn2 : h2.Ns ce.locals m2 := hn2
  have nea : a ≠ ce.locals := fun z => by rw [z, bC] at g2; cases g2
  have neT : T ≠ ce.locals := fun z => by rw [z, bC] at hT0; cases hT0
  have b2a : B2.get? a = none := by rw [kB a nea]; exact g2
  have stay2 : B2.StaysIn h2 := fun b o q => by
    obtain ⟨n, q2⟩ := sub q
    exact (hs2.2 b n).trans (g1 b o q2)
  have ff2 : h2.FunFrames B2 (X.env :: X.outer) := by
    have z := Heap.FunFrames.sameBut hs2 hn2 g3
    refine funFrames_none z fun L hL => ?_
    have hm := (z.mem hL).1
    by_cases n : L = ce.locals
    · rw [n]; exact kC
    · rw [kB L n]; exact hm
  have held2 : HandSPX.HeldZ B2 (X.env :: X.outer) a (Zc cls d) X.env.locals h2 :=
    ⟨stay2, b2a, ff2, oe, vs, T, oT, ts, (hs2.2 a nea).trans he, hz, hd, hv, by rw [kB T neT]; exact hT0, hTe, (hs2.2 T neT).trans hT, hdT, h3t⟩
  unfold PySem.passOn
  refine wpAny_bind (wpAny_field ((hs2.2 a nea).trans he) hd hv ?_)
  rw [if_neg (show ¬ ((Value.ref T == Value.none) = true) from by simp)]
  rw [cf, hf]
  refine wpAny_bind (HandSPX.setFlight_onZ held2 fun h3 hh3 up3 => ?_)
  refine wpAny_throw (tk _ _ ?_)
  -- the state without the exception and the block's names
  obtain ⟨G, j1, j2⟩ := restrict h3 fun b => (B2.get? b).isSome || decide (b ∈ frs X.stack)
  have gB : ∀ b o, B2.get? b = some o → G.get? b = some o := fun b o q => by
    rw [j1 b (by simp [q])]
    exact hh3.1 b o q
  have gF : ∀ b, b ∈ frs X.stack → G.get? b = h3.get? b := fun b hb => j1 b (by simp [hb])
  have og : ∀ b o, G.get? b = some o → h3.get? b = some o ∧ ((B2.get? b).isSome = true ∨ b ∈ frs X.stack) := fun b o q => by
    cases z : ((B2.get? b).isSome || decide (b ∈ frs X.stack)) with
    | false => rw [j2 b z] at q; cases q
    | true =>
      rw [j1 b z] at q
      exact ⟨q, by simpa [Bool.or_eq_true] using z⟩
  have slots : ∀ b o, s.heap.get? b = some o → b ∈ frs X.stack → ∃ sl, G.get? b = some { o with slots := sl } := fun b o q hb => by
    obtain ⟨_, o2, e2, hnf⟩ := Io.stack.mem hb
    rw [q] at e2
    cases e2
    obtain ⟨sl1, q1⟩ := ub.slot b o q hb
    obtain ⟨sl2, q2⟩ := up1 b _ q1 hnf
    have n : b ≠ ce.locals := fun z => nCf (z ▸ hb)
    obtain ⟨sl3, q3⟩ := up3 b _ ((hs2.2 b n).trans q2) hnf
    exact ⟨sl3, by rw [gF b hb]; exact q3⟩
  have U : Un (frs X.stack) [ce.locals] H' H2 s.heap G := {
    keep := fun b o q n hb hx => gB b o (by rw [kB b (by simpa using hx)]; exact ub.keep b o q n hb)
    slot := fun b o q n hb hx => slots b o q hb
    free := fun b o q n _ => ub.free b o q n
    there := fun b o q hx => by
      by_cases hb : b ∈ frs X.stack
      · obtain ⟨sl, z⟩ := slots b o q hb
        exact ⟨_, z⟩
      · obtain ⟨o', z⟩ := ub.there b o q hb
        exact ⟨o', gB b o' (by rw [kB b (by simpa using hx)]; exact z)⟩
    tups := ub.tups
    frzs := ub.frzs
    tbls := ub.tbls }
  have hokG : HOk X.prog X.w H2 G := fun b u q => (hok b u q).stay (fun c v hc r => gB c v (by
    have n : c ≠ ce.locals := fun z => by
      rcases hc with hc | hc
      · rw [← hc, z, nC2] at q; cases q
      · rw [z, nC2] at hc; cases hc
    rw [kB c n]
    exact r)) (fun _ r => r) fun _ _ r => r
  have J : Inv X pins σ H2 ({ s' with heap := G } : Shared) := Io.call' (ch := [ce.locals]) os U hokG ag fun b hb => by
    have e : b = ce.locals := by simpa using hb
    subst e
    exact ⟨fC.2.2.2.1, fC.2.1, fC.2.2.2.2.1, fC.2.2.2.2.2⟩
  refine ⟨a, B2, ({ s' with heap := G } : Shared), pins, σ, H2, cls, d, rfl, J, fun b o q hb => ?_, Heap.UpToSlots.of_keeps fun b o q => (og b o q).1, .inr (.inr (by rw [hs]; exact hh3)), na, rfl, ag, hE⟩
  obtain ⟨e', h⟩ := og b o q
  rcases h with h | h
  · obtain ⟨o', z⟩ := Option.isSome_iff_exists.mp h
    have y := hh3.1 b o' z
    rw [e'] at y
    cases y
    exact z
  · exact absurd h hb
section
variable {X : Cx}
/-- [elt for tg in iter], the element a call that may raise; W: the def's wish of what leaves it -/
theorem pe_lcX {elt tg iter : Expr} {scope : Scope} {own : List (Str × Nat)} {pos : Pos} {wi : TI} {g : TG} {te : TE} {W : XK} (ho : X.stack = X.env :: X.outer) (hf : X.env.frame = some X.env.locals) (tk : Takes X fun cls d _ H => W cls d H)
    (hc : X.calm = true) (hN : X.N.Nodup) (hi : PI X tg iter wi) (ok : BlkOk X.N X.env.scope scope own)
    (hg : ∀ (s : Shared) (H : Hp) (C : Addr) (cl : List (Str × Addr)) (fp : List Addr) (xe : Value → Shared → Prop), PG ((X.blk s H scope (compEnvC scope cl C X.env) fp).wish xe) tg g)
    (he : ∀ (s : Shared) (H : Hp) (C : Addr) (cl : List (Str × Addr)) (fp : List Addr) (xe : Value → Shared → Prop), (∀ σ', PassesAt (L2.CX X.prog X.w) ((X.blk s H scope (compEnvC scope cl C X.env) fp).wish xe) σ' W) →
      PE ((X.blk s H scope (compEnvC scope cl C X.env) fp).wish xe) elt te)
    (hs : ∀ x, foldedSetIterable iter X.env x = pure x := by intro _; rfl) : PE X (.ListComp elt [⟨tg, iter, [], 0⟩] scope pos) (tLc wi g tYes te (own.map (·.2))) := by
  refine ⟨fun pins s σ H Q I h => ?_⟩
  rw [eval_ListComp]
  have has : ∀ y ∈ scope.names, y.2 = .free → ∃ c, X.env.cells.lookup y.1 = some c := fun y hy e => by
    rcases ok.free y hy e with k | k
    · exact I.ok.has _ (Or.inl k)
    · exact I.ok.has _ (Or.inr k)
  refine comprehension_at (use := none) rfl hs (closure_ok has) ok.kind (fun y hy e => by rw [ok.uniq y hy, e]) ?_
  refine thn (hi.run pins s σ H _ I h) fun xv s1 hx => thn hx fun itv s2 h2 => ?_
  obtain ⟨it, fp, tn, J, H2, e, I2, T, st2, f2, q⟩ := h2
  subst e
  refine wpAny_newObj_type (newEnv_comp ?_) (by show 0 ≤ sizeLine; decide)
  obtain ⟨D, hD⟩ : ∃ D, s2.heap.objs.size = D := ⟨_, rfl⟩
  rw [hD]
  have hDn : H2 D = none := I2.hok.fresh (by rw [hD]; exact Nat.le_refl _)
  obtain ⟨Wm, ⟨m0, w0⟩, turn⟩ := q D hDn
  generalize e3 : ({ s2 with heap := s2.heap.push { cls := .type "list", data := .seq ([] : List Value).toArray } } : Shared) = s3
  have h3 : s3.heap = s2.heap.push { cls := .type "list", data := .seq ([] : List Value).toArray } := by rw [← e3]
  have I3 : Inv X pins σ (upd H2 D (.lst [])) s3 := by
    rw [← e3]
    exact I2.laid (t' := s2.toks) (fun b o z => Heap.get?_push_of_some _ z) (by rw [hD]; exact Nat.le_refl _) ⟨Nat.zero_le _, [], 0, .nil, by rw [← hD]; exact Heap.get?_push_size _ rfl⟩
  have f3 : ∀ b ∈ fp, FpOk X pins (upd H2 D (.lst [])) b ∧ b < s3.heap.objs.size := fun b hb => by
    obtain ⟨o, z, _⟩ := T.obj _ _ st2 b hb
    have lt := Heap.lt_size z
    rw [hD] at lt
    refine ⟨⟨by rw [upd_ne (Nat.ne_of_lt lt)]; exact (f2 b hb).1, (f2 b hb).2⟩, ?_⟩
    rw [h3, Heap.size_push, hD]
    exact Nat.lt_succ_of_lt lt
  have st3 : tn 0 s3.heap := T.keep _ _ _ st2 fun b _ o z => by
    rw [h3]
    exact Heap.get?_push_of_some _ z
  have I4 := block_start I3 ok hN f3
  have pg := hg s3 (upd H2 D (.lst [])) s3.heap.objs.size (cellsFrom (s3.heap.objs.size + 1) scope.names (cloFrom X.env.cells scope.names [])) fp
  have pe := he s3 (upd H2 D (.lst [])) s3.heap.objs.size (cellsFrom (s3.heap.objs.size + 1) scope.names (cloFrom X.env.cells scope.names [])) fp
  show codeAny _ _ (.compStart (.ListComp elt [⟨tg, iter, [], 0⟩] scope pos) 0 (.ref it) (.ref D) (compEnvC scope (cellsFrom (s3.heap.objs.size + 1) scope.names (cloFrom X.env.cells scope.names [])) s3.heap.objs.size X.env))
    (compEnds (model X.prog X.w) X.A X.xe none (EP X pins σ Q) (.ref D) (compEnvC scope (cellsFrom (s3.heap.objs.size + 1) scope.names (cloFrom X.env.cells scope.names [])) s3.heap.objs.size X.env)) { s3 with heap := pushCells (s3.heap.push { cls := .type "dict", data := .dict #[] }) scope.names }
  have cf : (compEnvC scope (cellsFrom (s3.heap.objs.size + 1) scope.names (cloFrom X.env.cells scope.names [])) s3.heap.objs.size X.env).frame = X.env.frame := rfl
  have cL : (compEnvC scope (cellsFrom (s3.heap.objs.size + 1) scope.names (cloFrom X.env.cells scope.names [])) s3.heap.objs.size X.env).locals = s3.heap.objs.size := rfl
  have nfp : ∀ b ∈ fp, (upd H2 D (.lst [])) b = none := fun b hb => (f3 b hb).1.1
  generalize compEnvC scope (cellsFrom (s3.heap.objs.size + 1) scope.names (cloFrom X.env.cells scope.names [])) s3.heap.objs.size X.env = ce at I4 pg pe cf cL ⊢
  generalize upd H2 D (.lst []) = H3 at I3 I4 pg pe w0 nfp f3
  generalize e4 : ({ s3 with heap := pushCells (s3.heap.push { cls := .type "dict", data := .dict #[] }) scope.names } : Shared) = s4 at I4 ⊢
  have st4 : tn 0 s4.heap := T.keep _ _ _ st3 fun b _ o z => by
    rw [← e4]
    exact pushCells_keeps _ _ _ _ (Heap.get?_push_of_some _ z)
  -- what the element lets out
  obtain ⟨xe, hxe⟩ : ∃ xe : Value → Shared → Prop, xe = notedBy (model X.prog X.w) X.A ce (CompFails (model X.prog X.w) X.A X.xe ce) := ⟨_, rfl⟩
  have pg := pg xe
  have pe := pe xe fun σ' pin2 H' s' e s'' I' c => by
    show xe e s''
    rw [hxe]
    exact comp_pass ho hf cf cL tk I3 (fun b hb => (f3 b hb).1) I' c
  have I4 := I4.wish xe
  have stat : ∀ {σ' : L2.St} {H' : Hp} {s' : Shared}, Inv ((X.blk s3 H3 scope ce fp).wish xe) [] σ' H' s' → (∀ b ∈ fp, H' b = none) → ∀ b ∈ fp, FpOk ((X.blk s3 H3 scope ce fp).wish xe) [] H' b := fun {σ' H' s'} I' hn b hb =>
    ⟨hn b hb, (I'.ok.exf b hb).1, I'.ok.exfs b hb, Or.inl hb, fun x c z => (I'.ok.exf b hb).2 x c z, fun p hp => absurd (show p ∈ ([] : List (Addr × Obj)) ++ [] from hp) (by simp)⟩
  have loop : codeAny (model X.prog X.w) X.A (.compLoop (.ListComp elt [⟨tg, iter, [], 0⟩] scope pos) 0 (.ref it) (.ref D) ce) (compEnds (model X.prog X.w) X.A X.xe none (EP X pins σ Q) (.ref D) ce) s4 := by
    refine compLoop_any (fun n s' => ∃ i H', Inv ((X.blk s3 H3 scope ce fp).wish xe) [] (wipe σ (own.map (·.2))) H' s' ∧ tn i s'.heap ∧ (∀ b ∈ fp, H' b = none) ∧ Wm i n H') ?_ m0 ⟨0, H3, I4, st4, nfp, w0⟩
    rintro n s5 ⟨i, H5, I5, st5, n5, w5⟩
    have toX : ∀ {α : Type} {m : Sem α} {Q1 : α → Shared → Prop} {s' : Shared}, wpAny (model X.prog X.w) X.A m Q1 xe s' → wpAny (model X.prog X.w) X.A m Q1 (notedBy (model X.prog X.w) X.A ce fun e s' => compEnds (model X.prog X.w) X.A X.xe none (EP X pins σ Q) (.ref D) ce (.error e) s') s' := fun hw => by
      rw [hxe] at hw
      exact hw
    rcases turn i n H5 w5 with ⟨stop, qq⟩ | ⟨go, Nx, hNx, step⟩
    · refine thnF (T.done ((X.blk s3 H3 scope ce fp).wish xe) rfl rfl rfl hc i [] s5 _ H5 (fun _ _ => False) I5 (stat I5 n5) st5 stop) fun r s6 ⟨hr, I6⟩ => ?_
      subst hr
      have I7 : Inv X pins σ H5 s6 := I3.call' (ch := fp) I6.os I6.base I6.hok I6.bare fun b hb => ⟨(f3 b hb).1.2.2.2.1, (f3 b hb).1.2.1, (f3 b hb).1.2.2.2.2.1, (f3 b hb).1.2.2.2.2.2⟩
      have nC : H5 ce.locals = none := I6.free
      obtain ⟨m, hn, _⟩ := I6.loc
      obtain ⟨f0, f1, _, f4, f5, f6⟩ := I3.fpOk (H' := H5) (b := ce.locals) (by rw [cL]; exact Nat.le_refl _) nC
      exact ⟨m, hn, fun h' sb => ⟨.ref D, H5, I7.turned (t' := s6.toks) (fun b o hb z => (sb.2 b hb).trans z) f0 f1 f4 f5 f6, rfl, qq⟩⟩
    · refine thnF (T.item ((X.blk s3 H3 scope ce fp).wish xe) rfl rfl rfl hc i [] s5 _ H5 (fun _ _ => False) I5 (stat I5 n5) st5 go) fun r s6 ⟨u, hr, h6⟩ => ?_
      subst hr
      refine thnF h6 fun _ s7 ⟨x, H7, I7, r7, y7, st7, n7⟩ => ?_
      have Ip := I7.pinned (stat I7 n7) (T.obj _ _ st7)
      refine toX (thn (pg.run _ s7 _ H7 x u _ Ip r7 (step x H7 y7)) fun _ s8 ⟨σ8, H8, I8, hw8, q8⟩ => ?_)
      refine wpAny_tests_nil ?_
      rw [if_pos rfl]
      have q9 : te σ8 H8 fun y H4 => ∃ acc, H4 D = some (.lst acc) ∧ acc.length < sizeLine ∧ Nx (upd H4 D (.lst (acc ++ [y]))) := q8
      refine toX (thn (pe.run _ s8 σ8 H8 _ I8 q9) fun z s10 hz => ?_)
      obtain ⟨yv, H10, I10, r10, acc, hD10, hz10, nx⟩ := hz
      refine app_ok (X := (X.blk s3 H3 scope ce fp).wish xe) I10 hD10 hz10 r10 fun s11 I11 => ?_
      obtain ⟨m', hm, w'⟩ := hNx _ nx
      have pin' : ∀ b ∈ fp, ∀ o, s7.heap.get? b = some o → s11.heap.get? b = some o ∧ upd H10 D (.lst (acc ++ [yv])) b = none := fun b hb o z =>
        let y := I11.pin (b, o) (List.mem_append_right _ (List.mem_append_right _ (mem_pinsAt hb z)))
        ⟨y.1, y.2.1⟩
      have hl : (wipe σ (own.map (·.2))).length = σ8.length := by rw [← hw8, wipe_length]
      refine ⟨m', hm, i + 1, _, (I11.unpinned (pins := [])).weak hl (fun j v z => ?_), T.keep _ _ _ st7 fun b hb o z => (pin' b hb o z).1, fun b hb => ?_, w'⟩
      · rw [← hw8] at z
        exact (wipe_some z).1
      · obtain ⟨o, z, _⟩ := T.obj _ _ st7 b hb
        exact (pin' b hb o z).2
  exact codeAny_compStart_list loop (T.self X.A 0 _ _ _ st4 loop)
end
end Ag

namespace Ag
open PySem PySem.Spec PyProof.Rows L2
/-! ### own errors with a field: made, raised, asked -/
/-- what a class between must say, so that its __init__ is ValueError's -/
structure CInit (K : PySem.W.Frag) (CA : Addr) : Prop where
  ga : PySem.W.specialIn K (.ref CA) "__getattribute__" = some (some (.builtin "type.__getattribute__"))
  rd : PySem.W.readsIn K CA (.type "type") = true
  at_ : PySem.W.findCls K (.ref CA) (.type "type") "__init__" = some (.val (.builtin "ValueError.__init__"))
def cinitB (K : PySem.W.Frag) (CA : Addr) : Bool := decide (PySem.W.specialIn K (.ref CA) "__getattribute__" = some (some (.builtin "type.__getattribute__"))) && (PySem.W.readsIn K CA (.type "type") &&
  (match PySem.W.findCls K (.ref CA) (.type "type") "__init__" with | some (.val v) => decide (v = .builtin "ValueError.__init__") | _ => false))
theorem cinitB_ok {K : PySem.W.Frag} {CA : Addr} (h : cinitB K CA = true) : CInit K CA := by
  obtain ⟨h1, h⟩ := Bool.and_eq_true_iff.mp h
  obtain ⟨h2, h3⟩ := Bool.and_eq_true_iff.mp h
  refine ⟨of_decide_eq_true h1, h2, ?_⟩
  split at h3
  · rename_i v e
    rw [e, of_decide_eq_true h3]
  · cases h3
/-- CA.__init__(self, ..) -/
theorem pe_cinit {X : Cx} {x0 : Str} {CA : Addr} {e : Expr} {es : List Expr} {ta : TA} {p1 p2 pos : Pos} {pl : Sem Bool} (T : CInit X.K CA) (hg : Gl X x0) (hm : X.mg x0 = some (.ref CA)) (ha : PA X (e :: es) ta)
    (hdb : (x0 == ("__debug__" : Str)) = false := by decide)
    (hc : eval (.Call (.Attribute (.Name x0 p1) "__init__" p2) (e :: es) [] pos) X.env = (do
      let ov ← eval (.Name x0 p1) X.env
      standAt p2.atName
      let (f, first) ← holding [ov] (getMethod ov "__init__" pl)
      callWith pos f first (backTo pos (starEach (e :: es) X.env)) (backToKw pos (keywordEach [] X.env))) := by rfl)
    (he : starEach (e :: es) X.env = (false, eval e X.env) :: starEach es X.env := by rfl) (hpl : (backTo pos (starEach es X.env)).any (·.1) = false := by rfl) :
    PE X (.Call (.Attribute (.Name x0 p1) "__init__" p2) (e :: es) [] pos) (tVeI X.K ta) := by
  refine ⟨fun pins s σ H Q I h => ?_⟩
  refine PySem.W.methodCall_KW (ld_glob I hg hm ?_ hdb) hc
  refine PySem.W.method_cls I.kIn T.ga (PySem.W.cls_value I.kIn T.rd T.at_ (by decide +kernel) ?_)
  show wpAny _ _ (callWith pos (Value.builtin "ValueError.__init__") [] (backTo pos (starEach (e :: es) X.env)) []) _ _ _
  refine PyProof.Rows.callWith_method1 (thn (ha.run pos pins _ σ H _ (I.tok _) h) fun us s1 hu => ?_) he hpl
  obtain ⟨vs, H1, I1, r1, a, C, ws, ev, hl, TC, ea, q⟩ := hu
  subst ev
  cases r1 with
  | @cons _ u0 _ ur ra rr =>
    cases (show u0 = Value.ref a from ra)
    exact oinit_ok TC I1 ea (by rw [← Paired.length rr, sizeLine_eq]; omega) fun s2 J => ⟨.non, H1, J, rfl, q⟩
/-- a class with an __init__ of its own, over ValueError -/
def oexB (K : PySem.W.Frag) (C : Addr) : Bool := (match K.lookup C with
  | some ⟨.type "type", _, .cls cd, sl⟩ => (match cd.mro, sl.toList with
    | .ref C' :: bm, [_, _, _, _, some (.builtin n), _] => decide (C' = C) && (decide (n = "ValueError.__new__") && (cd.hasDict && (!cd.hasDel && HandSPX.refsVE bm)))
    | _, _ => false)
  | _ => false) && (decide (PySem.W.findIn K (.ref C) "__setattr__" = some (some (.builtin "object.__setattr__"))) && (decide (PySem.W.subIn K (.ref C) (.type "BaseException") = some true) && (decide (PySem.W.typeIn K (.ref C) = some (.type "type")) && PySem.W.keepIn K (.ref C))))
theorem oexB_ok {K : PySem.W.Frag} {C : Addr} (h : oexB K C = true) : OexC K C := by
  obtain ⟨h1, h⟩ := Bool.and_eq_true_iff.mp h
  obtain ⟨h2, h⟩ := Bool.and_eq_true_iff.mp h
  obtain ⟨h3, h⟩ := Bool.and_eq_true_iff.mp h
  obtain ⟨h4, h5⟩ := Bool.and_eq_true_iff.mp h
  refine ⟨?_, of_decide_eq_true h2, of_decide_eq_true h3, of_decide_eq_true h4, h5⟩
  split at h1
  · rename_i dd cd sl ho
    split at h1
    · rename_i C' bm k0 k1 k2 k3 n k5 hm hs
      obtain ⟨e1, h1⟩ := Bool.and_eq_true_iff.mp h1
      obtain ⟨e2, h1⟩ := Bool.and_eq_true_iff.mp h1
      obtain ⟨e3, h1⟩ := Bool.and_eq_true_iff.mp h1
      obtain ⟨e4, e5⟩ := Bool.and_eq_true_iff.mp h1
      have e1 := of_decide_eq_true e1
      have e2 := of_decide_eq_true e2
      have e6 : cd.hasDel = false := by simpa using e4
      clear e4
      subst e1 e2
      obtain ⟨nm, bs, mro, ns, qn, hd, sn, sub, ab, col, del⟩ := cd
      dsimp only at hm e3 e6
      subst hm e3 e6
      have hsl : sl = #[k0, k1, k2, k3, some (.builtin "ValueError.__new__"), k5] := by
        obtain ⟨l⟩ := sl
        simp only at hs
        rw [hs]
      subst hsl
      exact ⟨nm, qn, ns, bs, bm, sn, sub, ab, col, dd, k0, k1, k2, k3, k5, ho, e5⟩
    · cases h1
  · cases h1
/-- what the class says of isinstance and of fields -/
structure ExcX (K : PySem.W.Frag) (D : Addr) : Prop where
  cl : (PySem.W.clsIn K D).isSome = true
  hg : PySem.W.findIn K (.ref D) "__getattribute__" = some (some (.builtin "BaseException.__getattribute__"))
  hk : PySem.W.findIn K (.ref D) "__getattr__" = some none
  hs : PySem.W.subIn K (.ref D) (.type "BaseException") = some true
  ha : PySem.W.findIn K (.ref D) "__class__" = some (some (.builtin "object.__class__"))
  hn : PySem.W.specialIn K (.builtin "object.__class__") "__get__" = some (some (.builtin "getset_descriptor.__get__"))
  ht : PySem.W.takesIn K (.builtin "object.__class__") = some true
  hm : PySem.W.mroIn K D (.type "object") = some true
def excXB (K : PySem.W.Frag) (D : Addr) : Bool := (PySem.W.clsIn K D).isSome && (decide (PySem.W.findIn K (.ref D) "__getattribute__" = some (some (.builtin "BaseException.__getattribute__"))) && (decide (PySem.W.findIn K (.ref D) "__getattr__" = some none) &&
  (decide (PySem.W.subIn K (.ref D) (.type "BaseException") = some true) && (decide (PySem.W.findIn K (.ref D) "__class__" = some (some (.builtin "object.__class__"))) && (decide (PySem.W.specialIn K (.builtin "object.__class__") "__get__" = some (some (.builtin "getset_descriptor.__get__"))) &&
  (decide (PySem.W.takesIn K (.builtin "object.__class__") = some true) && decide (PySem.W.mroIn K D (.type "object") = some true)))))))
theorem excXB_ok {K : PySem.W.Frag} {D : Addr} (h : excXB K D = true) : ExcX K D := by
  obtain ⟨h1, h⟩ := Bool.and_eq_true_iff.mp h
  obtain ⟨h2, h⟩ := Bool.and_eq_true_iff.mp h
  obtain ⟨h3, h⟩ := Bool.and_eq_true_iff.mp h
  obtain ⟨h4, h⟩ := Bool.and_eq_true_iff.mp h
  obtain ⟨h5, h⟩ := Bool.and_eq_true_iff.mp h
  obtain ⟨h6, h⟩ := Bool.and_eq_true_iff.mp h
  obtain ⟨h7, h8⟩ := Bool.and_eq_true_iff.mp h
  exact ⟨h1, of_decide_eq_true h2, of_decide_eq_true h3, of_decide_eq_true h4, of_decide_eq_true h5, of_decide_eq_true h6, of_decide_eq_true h7, of_decide_eq_true h8⟩
/-- the caught error's own dict, as the heap has it -/
def DictOf (d : Option Addr) (H : Hp) : Prop := d = none ∨ ∃ dd fs, d = some dd ∧ H dd = some (.xd fs)
/-- isinstance(e, c), e the caught error -/
def rIsX (K : PySem.W.Frag) (a : Addr) (cls : Value) (d : Option Addr) : List V → Hp → VK → Prop := fun xs H Q => ∃ (D : Addr) (c : V) (u : Value) (b : Bool), xs = [.ref a, c] ∧ cls = .ref D ∧ ExcX K D ∧ DictOf d H ∧ ClsV c u ∧ PySem.W.kitOne K (.ref D) u = some b ∧ Q (.bl b) H
/-- isinstance(e, (c1, ..)) -/
def rIsXT (K : PySem.W.Frag) (a : Addr) (cls : Value) (d : Option Addr) : List V → Hp → VK → Prop := fun xs H Q => ∃ (D tp : Addr) (cs : List V) (us : List Value) (b : Bool), xs = [.ref a, .ref tp] ∧ cls = .ref D ∧ ExcX K D ∧ DictOf d H ∧ H tp = some (.tup cs) ∧ Paired ClsV cs us ∧
  PySem.W.kitAny K (.ref D) us = some b ∧ Q (.bl b) H
section
variable {X : Cx} {a : Addr} {oe : Obj} {pn pins : List (Addr × Obj)} {cls : Value} {d : Option Addr} {K : PySem.W.Frag}
theorem inst_of {D : Addr} {σ : L2.St} {H : Hp} {s : Shared} (hz : Zc (.ref D) d oe) (hf : ∃ vs, oe.data = .fields vs) (I : Inv (X.suite a ((a, oe) :: pn)) pins σ H s) (hd : DictOf d H) : ∃ od, PySem.W.InstAt s.heap a oe D od := by
  obtain ⟨hget, _⟩ := I.pin (a, oe) (List.mem_append.mpr (Or.inl List.mem_cons_self))
  obtain ⟨vs, hv⟩ := hf
  obtain ⟨oc, odi, oda, osl⟩ := oe
  obtain ⟨h1, h2⟩ := hz
  dsimp only at h1 h2 hv
  subst h1 h2 hv
  rcases hd with rfl | ⟨dd, fs, rfl, hx⟩
  · exact ⟨none, hget, rfl, rfl, trivial⟩
  · obtain ⟨mA, hns, _⟩ := (show ObjOk X.prog X.w H s.heap dd (.xd fs) from I.hok dd _ hx)
    obtain ⟨od, ho, _⟩ := lookIn_ns hns
    exact ⟨some od, hget, rfl, rfl, ho⟩
theorem call_isX (hz : Zc cls d oe) (hf : ∃ vs, oe.data = .fields vs) (hK : X.K = K := by rfl) : CallR (X.suite a ((a, oe) :: pn)) (.builtin "isinstance") (rIsX K a cls d) := by
  subst hK
  intro pins s σ H xs us Q I r h
  obtain ⟨D, c, u, b, rfl, rfl, C, hd, k, e, q⟩ := h
  obtain ⟨u1, u2, rfl, r1, r2⟩ := vals2 r
  cases (show u1 = Value.ref a from r1)
  have e2 := k.eq r2
  subst e2
  obtain ⟨od, J⟩ := inst_of hz hf I hd
  exact PySem.W.kia_one (PySem.W.kitx_exc C.cl C.hg C.hk C.hs C.ha C.hn C.ht C.hm) I.kIn J e (fun z => nomatch z) fun tk => ⟨.bl b, H, I.tok tk, rfl, q⟩
theorem call_isXT (hz : Zc cls d oe) (hf : ∃ vs, oe.data = .fields vs) (hK : X.K = K := by rfl) : CallR (X.suite a ((a, oe) :: pn)) (.builtin "isinstance") (rIsXT K a cls d) := by
  subst hK
  intro pins s σ H xs us Q I r h
  obtain ⟨D, tp, cs, ws, b, rfl, rfl, C, hd, hT, k, e, q⟩ := h
  obtain ⟨u1, u2, rfl, r1, r2⟩ := vals2 r
  cases (show u1 = Value.ref a from r1)
  cases (show u2 = Value.ref tp from r2)
  obtain ⟨od, J⟩ := inst_of hz hf I hd
  obtain ⟨_, its, rv, o, h1, h2, n, h3⟩ := (show ObjOk X.prog X.w H s.heap tp (.tup cs) from I.hok tp _ hT)
  have e3 := ClsV.all k rv
  subst e3
  obtain ⟨oc, od2, dt, sl⟩ := o
  simp only at h2 h3
  subst h2 h3
  exact PySem.W.kia_tup (PySem.W.kitx_exc C.cl C.hg C.hk C.hs C.ha C.hn C.ht C.hm) I.kIn J h1 e (fun z => nomatch z) fun tk => ⟨.bl b, H, I.tok tk, rfl, q⟩
end
/-! ### the errors' own __init__ -/
/-- self.f = y on a new error of the class at C -/
def sp_xinit (f : Str) (C : Addr) (K : PySem.W.Frag) : Sp := fun vs H Q _ => ∃ (a : Addr) (y : V), vs = [.ref a, y] ∧ H a = some (exo a C none) ∧ ∀ d, H d = none → d ≠ a → Q .non (upd (upd H d (exd d [(f, y)])) a (exo a C (some d)))
theorem mk_read {C : Addr} {f : Str} {K : PySem.W.Frag} {y : V} {H : Hp} {Q : XK} (h : ∀ d, H d = none → Q (.ref C) (some d) (upd H d (.xd [(f, y)]))) :
    [y].length ≤ 1000 ∧ ∀ a, H a = none → sp_xinit f C K (.ref a :: ([y] ++ [])) (upd H a (exo a C none)) (fun v H2 => v = .non ∧ ∃ (d : Addr) (fs : List (Str × V)), H2 a = some (exo a C (some d)) ∧ H2 d = some (exd d fs) ∧ H d = none ∧ Q (.ref C) (some d) (upd (del H2 a) d (.xd fs))) (fun _ _ _ => False) := by
  refine ⟨by show 1 ≤ 1000; decide, fun a ha => ⟨a, y, rfl, upd_same, fun d hd hda => ⟨rfl, d, [(f, y)], upd_same, by rw [upd_ne hda, upd_same], by rw [upd_ne hda] at hd; exact hd, ?_⟩⟩⟩
  have hd' : H d = none := by rw [upd_ne hda] at hd; exact hd
  have e : upd (del (upd (upd (upd H a (exo a C none)) d (exd d [(f, y)])) a (exo a C (some d))) a) d (.xd [(f, y)]) = upd H d (.xd [(f, y)]) := by
    funext b
    by_cases hb : b = d
    · rw [hb, upd_same, upd_same]
    · rw [upd_ne hb, upd_ne hb]
      by_cases hba : b = a
      · rw [hba, del_same, ha]
      · rw [del_ne hba, upd_ne hba, upd_ne hb, upd_ne hba]
  rw [e]
  exact h d hd'
/-- raise C(e), C with such an __init__ -/
theorem ps_raiseI {X : Cx} {x : Str} {C fI : Addr} {k : Nat} {fd : FuncData} {ps : List Str} {f : Str} {W : WX} {e : Expr} {es : List Expr} {ta : TA} {p pos pos2 : Pos} {K : PySem.W.Frag} (tk : Takes X W) (T : OexC X.K C) (iC : PySem.W.findIn X.K (.ref C) "__init__" = some (some (.ref fI)))
    (tI : PySem.W.typeIn X.K (.ref fI) = some (.type "function")) (F1 : FnOk X.prog X.w X.K X.mg X.base CX0 k fI fd ps (sp_xinit f C K)) (hr : Room (k + 1) X.A) (hb : Binds X.K fd ps []) (hg : Gl X x) (hm : X.mg x = some (.ref C)) (ha : PA X (e :: es) ta) (hc : X.calm = true := by rfl)
    (hdb : (x == ("__debug__" : Str)) = false := by decide) (he : starEach (e :: es) X.env = (false, eval e X.env) :: starEach es X.env := by rfl) (hpl : (backTo pos (starEach es X.env)).any (·.1) = false := by rfl) :
    PS X (.Raise (some (.Call (.Name x p) (e :: es) [] pos)) none pos2) (fun _ σ H => tMkO C (sp_xinit f C K) [] ta σ H fun cls d H' => W cls d σ H') :=
  ps_raise hc tk (pmk_oex T iC tI F1 hr hb .nil pass0 hg hm ha hdb he hpl)
end Ag

namespace Ag
open PySem PySem.Spec PyProof.Rows L2 TL
/-! ### words that are numbers, lines that are asks -/
theorem d1_all : ∀ a < 10, numL a = [48 + a] := by decide +kernel
theorem d2_all : ∀ a < 10, ∀ b < 10, a ≠ 0 → numL (10 * a + b) = [48 + a, 48 + b] := by decide +kernel
theorem d3_all : ∀ a < 10, ∀ b < 10, ∀ c < 10, a ≠ 0 → numL (100 * a + 10 * b + c) = [48 + a, 48 + b, 48 + c] := by decide +kernel
def GoodW (w : Str) : Prop := ∃ n, Few n ∧ w = numS n
theorem str_ext {x y : Str} (h : tl x = tl y) : x = y := by
  have h : x.cps.toList = y.cps.toList := h
  obtain ⟨⟨a⟩⟩ := x
  obtain ⟨⟨b⟩⟩ := y
  have h : a = b := h
  rw [h]
theorem good_of {w : Str} {k : Nat} (hk : k ≤ 999) (h : tl w = numL k) : GoodW w := ⟨(k : Int), ⟨by omega, by omega⟩, str_ext (h.trans (tl_num k).symm)⟩
theorem good_word {w : Str} (h1 : 1 ≤ w.length) (h3 : w.length ≤ 3) (hd : ∀ c ∈ tl w, 48 ≤ c ∧ c ≤ 57) (h0 : (tl w).head? = some 48 → w = Str.ofString "0") : GoodW w := by
  rw [len_tl] at h1 h3
  have e0 : tl (Str.ofString "0") = [48] := by decide +kernel
  have hz : ∀ {x : Nat} {r : List Nat}, tl w = x :: r → r ≠ [] → x ≠ 48 := fun {x r} e hr hx => by
    have h := h0 (by rw [e, hx]; rfl)
    rw [h, e0] at e
    injection e with _ e
    exact hr e.symm
  match e : tl w, h1, h3 with
  | [a], _, _ =>
    have ha := hd a (by rw [e]; exact List.mem_cons_self)
    refine good_of (k := a - 48) (by omega) ?_
    rw [e, d1_all (a - 48) (by omega)]
    congr 1
    omega
  | [a, b], _, _ =>
    have ha := hd a (by rw [e]; simp)
    have hb := hd b (by rw [e]; simp)
    have na := hz e (by simp)
    refine good_of (k := 10 * (a - 48) + (b - 48)) (by omega) ?_
    rw [e, d2_all (a - 48) (by omega) (b - 48) (by omega) (by omega)]
    have e1 : 48 + (a - 48) = a := by omega
    have e2 : 48 + (b - 48) = b := by omega
    rw [e1, e2]
  | [a, b, c], _, _ =>
    have ha := hd a (by rw [e]; simp)
    have hb := hd b (by rw [e]; simp)
    have hc := hd c (by rw [e]; simp)
    have na := hz e (by simp)
    refine good_of (k := 100 * (a - 48) + 10 * (b - 48) + (c - 48)) (by omega) ?_
    rw [e, d3_all (a - 48) (by omega) (b - 48) (by omega) (c - 48) (by omega) (by omega)]
    have e1 : 48 + (a - 48) = a := by omega
    have e2 : 48 + (b - 48) = b := by omega
    have e3 : 48 + (c - 48) = c := by omega
    rw [e1, e2, e3]
theorem spl_len1 (s : Nat) : ∀ (l acc : List Nat), (spl [s] 0 acc l).length ≤ l.length + 1 ∧ ∀ p ∈ spl [s] 0 acc l, p.length ≤ acc.length + l.length ∧ ∀ c ∈ p, c ∈ acc ∨ c ∈ l
  | [], acc => by
    rw [spl_nil]
    refine ⟨Nat.le_refl _, fun p hp => ?_⟩
    rw [List.mem_singleton.mp hp]
    exact ⟨Nat.le_add_right _ _, fun c hc => .inl hc⟩
  | c :: r, acc => by
    by_cases h : pre [s] (c :: r) = true
    · rw [spl_hit h]
      obtain ⟨h1, h2⟩ := spl_len1 s r []
      refine ⟨by simp only [List.length_cons]; exact Nat.succ_le_succ h1, fun p hp => ?_⟩
      rcases List.mem_cons.mp hp with rfl | hp
      · exact ⟨Nat.le_add_right _ _, fun c hc => .inl hc⟩
      · obtain ⟨h3, h4⟩ := h2 p hp
        simp only [List.length_nil, List.length_cons] at h3 ⊢
        refine ⟨by omega, fun x hx => ?_⟩
        rcases h4 x hx with z | z
        · cases z
        · exact .inr (List.mem_cons_of_mem _ z)
    · rw [spl_miss (by simpa using h)]
      obtain ⟨h1, h2⟩ := spl_len1 s r (acc ++ [c])
      refine ⟨by simp only [List.length_cons]; omega, fun p hp => ?_⟩
      obtain ⟨h3, h4⟩ := h2 p hp
      simp only [List.length_append, List.length_cons, List.length_nil] at h3 ⊢
      refine ⟨by omega, fun x hx => ?_⟩
      rcases h4 x hx with z | z
      · rcases List.mem_append.mp z with z | z
        · exact .inl z
        · rw [List.mem_singleton.mp z]
          exact .inr List.mem_cons_self
      · exact .inr (List.mem_cons_of_mem _ z)
/-- signs that a text may have -/
def WOk (w : Str) : Prop := ∀ c ∈ tl w, c < 256
theorem split_len {x y : Str} {s : Nat} (ey : tl y = [s]) (hs : s < 256) : (Txt.split x y).length ≤ x.length + 1 ∧ ∀ p ∈ Txt.split x y, p.length ≤ x.length ∧ (WOk x → WOk p) := by
  have e : Txt.split x y = (spl [s] 0 [] (tl x)).map SX.S := by
    have h := SX.split_S (a := tl x) (b := [s]) (by simp) (by simpa using hs)
    rw [show SX.S (tl x) = x from SX.S_tl x, show SX.S [s] = y from by rw [← ey]] at h
    exact h
  obtain ⟨h1, h2⟩ := spl_len1 s (tl x) []
  rw [e, len_tl]
  refine ⟨by rw [List.length_map]; exact h1, fun p hp => ?_⟩
  obtain ⟨q, hq, rfl⟩ := List.mem_map.mp hp
  obtain ⟨h3, h4⟩ := h2 q hq
  simp only [List.length_nil, Nat.zero_add] at h3
  refine ⟨h3, fun hx c hc => ?_⟩
  rcases h4 c hc with z | z
  · cases z
  · exact hx c z
theorem tl_sp : tl spS = [32] := by decide +kernel
theorem tl_nl : tl nlS = [10] := by decide +kernel
def wordsOf (line : Str) : List Str := Txt.split line spS
def linesOf (t : Str) : List Str := if t = Str.ofString "" then [] else Txt.split t nlS
/-- a line that tells an ask -/
def LineIs (line : Str) (a : Ask) : Prop := wordsOf line = (askNs a).map numS ∧ ∀ n ∈ askNs a, Few n
theorem numS_inj {a b : Int} (ha : Few a) (hb : Few b) (h : numS a = numS b) : a = b := by
  have h1 := numS_int ha
  rw [h, numS_int hb] at h1
  exact (Option.some.inj h1).symm
theorem line_unique {s : Str} {a b : Ask} (ha : LineIs s a) (hb : LineIs s b) : a = b := by
  have h := ha.1.symm.trans hb.1
  obtain ⟨a1, a2, a3⟩ := a
  obtain ⟨b1, b2, b3⟩ := b
  have fa := ha.2
  have fb := hb.2
  unfold askNs at h fa fb
  simp only [List.map_cons, List.map_nil, List.cons.injEq, and_true] at h
  rw [numS_inj (fa a1 (by simp)) (fb b1 (by simp)) h.1, numS_inj (fa a2 (by simp)) (fb b2 (by simp)) h.2.1, numS_inj (fa a3 (by simp)) (fb b3 (by simp)) h.2.2]
theorem line_of {s : Str} (h3 : (wordsOf s).length = 3) (hg : ∀ w ∈ wordsOf s, GoodW w) : ∃ a, LineIs s a := by
  match e : wordsOf s, h3 with
  | [w1, w2, w3], _ =>
    rw [e] at hg
    obtain ⟨n1, f1, rfl⟩ := hg w1 (by simp)
    obtain ⟨n2, f2, rfl⟩ := hg w2 (by simp)
    obtain ⟨n3, f3, rfl⟩ := hg w3 (by simp)
    refine ⟨(n1, n2, n3), e, fun n hn => ?_⟩
    unfold askNs at hn
    simp only [List.mem_cons, List.not_mem_nil, or_false] at hn
    rcases hn with rfl | rfl | rfl <;> assumption
theorem line_good {s : Str} {a : Ask} (h : LineIs s a) : (wordsOf s).length = 3 ∧ ∀ w ∈ wordsOf s, GoodW w := by
  rw [h.1]
  refine ⟨rfl, fun w hw => ?_⟩
  obtain ⟨n, hn, rfl⟩ := List.mem_map.mp hw
  exact ⟨n, h.2 n hn, rfl⟩
theorem lines_len (t : Str) : (linesOf t).length ≤ t.length + 1 ∧ ∀ p ∈ linesOf t, p.length ≤ t.length ∧ (WOk t → WOk p) := by
  unfold linesOf
  split
  · exact ⟨Nat.zero_le _, fun p hp => by cases hp⟩
  · exact split_len tl_nl (by decide)
theorem words_len (t : Str) : (wordsOf t).length ≤ t.length + 1 ∧ ∀ p ∈ wordsOf t, p.length ≤ t.length ∧ (WOk t → WOk p) := split_len tl_sp (by decide)
theorem canLay_strs : ∀ ws : List Str, (∀ w ∈ ws, WOk w) → PyData.canLayAll0 (ws.map PyData.str) = true
  | [], _ => by simp [PyData.canLayAll0]
  | n :: r, h => by
    have h1 : PyData.strOk n = true := by
      have := h n List.mem_cons_self
      unfold PyData.strOk
      rw [← Array.all_toList, List.all_eq_true]
      intro c hc
      have := this c hc
      exact decide_eq_true (by omega)
    simp [PyData.canLayAll0, PyData.canLay0, canLay_strs r (fun w hw => h w (List.mem_cons_of_mem _ hw)), h1]
theorem depth_strs : ∀ ws : List Str, PyData.depthAll (ws.map PyData.str) = 0
  | [] => by simp [PyData.depthAll]
  | n :: r => by simp [PyData.depthAll, PyData.depth, depth_strs r]
theorem shaped_strs {ws : List Str} (h : ∀ w ∈ ws, WOk w) : SeqAt.shaped (.list (ws.map PyData.str)) = true := by
  unfold SeqAt.shaped
  simp [PyData.canLay0, canLay_strs ws h, PyData.depth, depth_strs]
theorem dpa_strs {K : PySem.W.Frag} {H : Hp} : ∀ ws : List Str, DpAll K H (ws.map V.str) (ws.map PyData.str)
  | [] => .nil
  | w :: r => .cons (.str w) (dpa_strs r)
theorem eqv_nilS (ds : List PyData) : PyData.eqv (.list ds) (.list []) = ds.isEmpty := by
  cases ds with
  | nil => simp [PyData.eqv, PyData.eqvAll]
  | cons n r => simp [PyData.eqv, PyData.eqvAll]
end Ag

namespace Ag
open PySem PySem.Spec PyProof.Rows L2
/-! ### xs.count(y), flat items -/
def rCnt (K : PySem.W.Frag) : V → List V → Hp → VK → Prop := fun x xs H Q => ∃ (a : Addr) (ys : List V) (y : V), x = V.ref a ∧ xs = [y] ∧ SqL K H a ys ∧ flatV y = true ∧ ys.all flatV = true ∧ Q (.int ((ys.countP fun z => eqV z y : Nat) : Int)) H
theorem count_pair {y : V} : ∀ {ys : List V} {us : List Value}, Vals ys us → ys.all flatV = true → us.countP (eqU y) = ys.countP (fun z => eqV z y)
  | _, _, .nil, _ => rfl
  | z :: ys, u :: us, .cons r t, f => by
    rw [List.all_cons, Bool.and_eq_true] at f
    rw [List.countP_cons, List.countP_cons, count_pair t f.2, eqU_of r f.1]
section
variable {X : Cx}
theorem mt_cnt : MtR X "list.count" (rCnt X.K) := by
  intro pins s σ H x xs v us Q I rx rxs h
  obtain ⟨a, ys, y, rfl, rfl, hs, fy, fys, q⟩ := h
  cases rx
  cases rxs with
  | cons ry rt =>
    rename_i uy ut
    cases rt
    obtain ⟨its, rv, ⟨⟨cls, dd, data, sl⟩, n, ho, hc, hdn, hd⟩, hlen⟩ := I.list hs
    simp only at hc hd
    subst hc hd
    refine call_meets PySem.F.slot_list_count ⟨_, ho, rfl⟩ PySem.F.entry_list_count (PySem.F.args_list_count_2 _ _)
      (SeqAt.list_countAt a its.toArray n dd sl uy (eqU y)) ⟨ho, fun u' hu' => mem_eqAt ry fy rv fys u' (by simpa using hu'), ?_⟩
    have e : its.toArray.toList.countP (eqU y) = ys.countP (fun z => eqV z y) := count_pair rv fys
    rw [e]
    exact ⟨.int _, H, I.tok _, ⟨_, rfl⟩, q⟩
/-- xs.count(y), the kit's facts named -/
theorem pe_cnt {K : PySem.W.Frag} {o e : Expr} {to : TE} {t : TA} {apos cpos : Pos} (ho : PE X o to) (ha : PA X [e] t) (hK : X.K = K := by rfl)
    (hbase : attributeBase o "count" X.env (eval o X.env) = eval o X.env := by rfl)
    (hfew : ((backTo cpos (starEach [e] X.env)).all (fun x => !x.1) && (backToKw cpos (keywordEach [] X.env)).all (fun x => x.1.isSome)
      && decide ([e].length + ([] : List Keyword).length + (if ([] : List Keyword).isEmpty then 0 else 1) < 30)) = true := by rfl)
    (hline : (apos.endLine == cpos.line) = true := by rfl) (hs : starEach [e] X.env = (false, eval e X.env) :: starEach [] X.env := by rfl) (hplain : (backTo cpos (starEach [] X.env)).any (·.1) = false := by rfl) :
    PE X (.Call (.Attribute o "count" apos) [e] [] cpos) (tBM K "list" (rCnt K) to t) := by
  subst hK
  exact pe_bm PySem.F.plainAttrs_list PySem.F.slot_list_count PySem.F.type_list_count mt_cnt ho ha hbase hfew hline hs hplain
end
end Ag

namespace Ag
open PySem PySem.Spec PyProof.Rows L2
/-! ### an own error without __init__, made of a text and raised -/
structure OwnC (K : PySem.W.Frag) (mg : Str → Option Value) (x : Str) (C : Addr) : Prop where
  q : PySem.W.excIn K C [.type "ValueError", .type "Exception", .type "BaseException", .type "object"] "ValueError.__new__" = true
  g : mg x = some (.ref C)
  k : PySem.W.keepIn K (.ref C) = true
  s : PySem.W.subIn K (.ref C) (.type "BaseException") = some true
  t : PySem.W.typeIn K (.ref C) = some (.type "type")
theorem ps_raiseO {X : Cx} {W : WX} {x m : Str} {C : Addr} {j : Nat} {p p2 pos pos2 : Pos} (tk : Takes X W) (O : OwnC X.K X.mg x C) (hg : Gl X x) (hc : X.calm = true := by rfl) (hdb : (x == ("__debug__" : Str)) = false := by decide) :
    PS X (.Raise (some (.Call (.Name x p) [.Constant (.str m) j p2] [] pos)) none pos2) (fun _ σ H => W (.ref C) none σ H) :=
  ps_raise hc tk (pmk_own PySem.F.excBase_ValueError O.q O.g O.k (raises_own O.s O.t) hg hdb)
end Ag

namespace Ag
open PySem PySem.Spec PyProof.Rows L2 LamX NdefX
open PySem.W (hideAll hideAll_get hideAll_none hideAll_size of_hideAll)
/-! ### a wider base at a call -/
section
variable {P : Program} {w : World} {K : PySem.W.Frag} {mg : Str → Option Value} {base : Heap} {A : Around} {outer : List Env} {s : Shared} {H : Hp}
theorem funFrames_none {h base : Heap} : ∀ {l : List Env}, h.FunFrames base l → ∀ {b2 : Heap}, (∀ b ∈ frs l, b2.get? b = none) → h.FunFrames b2 l
  | [], _, _, _ => trivial
  | env :: r, hl, b2, hn => by
    obtain ⟨hk, ⟨L, o, hf, hn0, ho, hd⟩, hr⟩ := hl
    have hL : L ∈ frs (env :: r) := by unfold frs; rw [List.filterMap_cons, hf]; exact List.mem_cons_self
    exact ⟨hk, ⟨L, o, hf, hn L hL, ho, hd⟩, funFrames_none hr fun b hb => hn b (by unfold frs at hb ⊢; rw [List.filterMap_cons, hf]; exact List.mem_cons_of_mem _ hb)⟩
/-- all that stands untracked and is no frame may be taken into the base -/
theorem env0_rebase (e : Env0 P w K mg base A outer s H) : ∃ b2 : Heap, Env0 P w K mg b2 A outer s H ∧ (∀ b o, base.get? b = some o → b2.get? b = some o) ∧ ∀ b o, s.heap.get? b = some o → H b = none → b ∉ frs outer → b2.get? b = some o := by
  classical
  refine ⟨hideAll s.heap (frs outer ++ (List.range s.heap.objs.size).filter fun a => decide (H a ≠ none)), ?_⟩
  have up : ∀ b o, s.heap.get? b = some o → H b = none → b ∉ frs outer → (hideAll s.heap (frs outer ++ (List.range s.heap.objs.size).filter fun a => decide (H a ≠ none))).get? b = some o := fun b o h1 h2 h3 => by
    refine hideAll_get _ h1 fun hm => ?_
    rcases List.mem_append.mp hm with hm | hm
    · exact h3 hm
    · have := (List.mem_filter.mp hm).2
      simp [h2] at this
  have nofr : ∀ b ∈ frs outer, base.get? b = none := fun b hb => (e.funs.mem hb).1
  have old : ∀ b o, base.get? b = some o → (hideAll s.heap (frs outer ++ (List.range s.heap.objs.size).filter fun a => decide (H a ≠ none))).get? b = some o := fun b o h1 => by
    refine up b o (e.bs b o h1).1 (e.bs b o h1).2 fun hb => ?_
    rw [nofr b hb] at h1
    cases h1
  obtain ⟨kin, glob, ⟨mb, blt, blt2⟩, nolimit⟩ := e.mod
  refine ⟨⟨e.frames, ⟨kin.keeps old, glob.keeps old, ⟨mb, blt.keeps old, blt2⟩, nolimit.keeps old⟩, fun b o h1 => ?_, by rw [hideAll_size]; exact Nat.le_refl _, funFrames_none e.funs fun b hb => hideAll_none _ (List.mem_append_left _ hb), e.frf, e.hok, e.bare⟩, old, up⟩
  have h2 := of_hideAll _ h1
  refine ⟨h2, ?_⟩
  cases q : H b with
  | none => rfl
  | some o2 =>
    have hm : b ∈ frs outer ++ (List.range s.heap.objs.size).filter fun a => decide (H a ≠ none) := by
      refine List.mem_append_right _ (List.mem_filter.mpr ⟨List.mem_range.mpr (Heap.lt_size h2), ?_⟩)
      rw [q]
      simp
    rw [hideAll_none _ hm] at h1
    cases h1
end
/-! ### a lambda, run -/
abbrev lamO (F : NF) (params : Arguments) (body : Expr) (pm ctv : Value) : Obj := PySem.W.kla_obj "<lambda>" F.qual params body F.scope F.cl pm F.c ctv
section
variable {P : Program} {w : World} {K : PySem.W.Frag} {mg : Str → Option Value} {base : Heap} {A : Around} {outer : List Env} {s : Shared} {H : Hp} {N ps fr : List Str} {F : NF} {f : Addr} {params : Arguments} {body : Expr} {pm ctv : Value} {vs : List V} {us : List Value} {ws : List (Option V)} {k : Nat} {Q : VK} {t : TE}
theorem lam_run (S : NScope N ps fr F.scope) (hr : Room (k + 1) A) (e0 : Env0 P w K mg base A outer s H) (hf : s.heap.get? f = some (lamO F params body pm ctv)) (hc : H F.c = some (CodeO F.c F.qual)) (C : CellsAt F.cl fr ws s.heap H)
    (r : Vals vs us) (hl : vs.length = ps.length) (hb : bindArgs (PySem.W.kla_fn "<lambda>" F.qual params body F.scope F.cl pm (.ref F.c) ctv) ⟨us, []⟩ = pure (ps.zip us))
    (hbody : Room k (A.deeper (envF F f s.heap.objs.size)) → PE (ncx CX0 P w K mg base N F f A outer s H E0) body t) (q : t (startF N vs ws) H Q) : codeAny (model P w) A (.call (.ref f) ⟨us, []⟩) (CR CX0 outer P w H s Q E0) s := by
  have lim : s.heap.NoLimit := e0.mod.nolimit.keeps fun b o e => (e0.bs b o e).1
  refine PySem.W.kla_callFunE hr.depth hf rfl S.co S.gen rfl (codeO_at e0.hok hc) ?_
  rw [hb]
  refine wpAny_pure (wpAny_newFunctionEnv S.nocell (fun ⟨n, _⟩ hy => S.par n (List.of_mem_zip hy).1) (fun h₁ hns hsb => ⟨lim.fresh _ hsb, ?_⟩) S.kind)
  have kp : ∀ b o, s.heap.get? b = some o → h₁.get? b = some o := fun b o e => hsb.extBut b o (Nat.ne_of_lt (Heap.lt_size e)) (Heap.get?_push_of_some _ e)
  have I : Inv (ncx CX0 P w K mg base N F f A outer s H E0) [] (startF N vs ws) H { s with heap := h₁, toks := s.toks + (ps.zip us).length } := inv_startN S hr.hd e0 hl r C hns kp
  refine PySem.W.kla_codeExpr (wpAny_mono ((hbody (hr.deeper _)).run [] _ _ H Q I q) (fun v s' hq => ?_) fun e s' hq => hq)
  obtain ⟨w', H', J', rv, q⟩ := hq
  exact ⟨w', H', J'.os, J'.bare, J'.base, J'.hok, rv, q⟩
end

/-! ### a lambda and its cells in a base -/
structure LamB (base : Heap) (f : Addr) (F : NF) (params : Arguments) (body : Expr) (fr : List Str) (ws : List (Option V)) : Prop where
  fn : ∃ pm ctv, base.get? f = some (lamO F params body pm ctv)
  len : ws.length = fr.length
  all : ∀ y c, F.cl.lookup y = some c → ∃ v, base.IsCell c v
  inj : ∀ x y c, F.cl.lookup x = some c → F.cl.lookup y = some c → x = y
  has : ∀ (i : Nat) (y : Str), fr[i]? = some y → ∃ c, F.cl.lookup y = some c ∧ ∀ v, ws[i]? = some (some v) → ∃ u, L2.RelV v u ∧ base.IsCell c (some u)
section
variable {P : Program} {w : World} {K : PySem.W.Frag} {mg : Str → Option Value} {base b2 : Heap} {A : Around} {outer : List Env} {s : Shared} {H : Hp} {fr : List Str} {F : NF} {f : Addr} {params : Arguments} {body : Expr} {ws : List (Option V)}
theorem cell_up {base b2 : Heap} (up : ∀ b o, base.get? b = some o → b2.get? b = some o) {c : Addr} {v : Option Value} (h : base.IsCell c v) : b2.IsCell c v := let ⟨o, e, d⟩ := h; ⟨o, up _ _ e, d⟩
theorem LamB.cells (B : LamB base f F params body fr ws) (e : Env0 P w K mg base A outer s H) : CellsAt F.cl fr ws s.heap H :=
  ⟨B.len, fun y c h => by
    obtain ⟨v, o, ho, hd⟩ := B.all y c h
    exact ⟨(e.bs _ _ ho).2, v, o, (e.bs _ _ ho).1, hd⟩, B.inj, fun i y h => by
    obtain ⟨c, hc, hv⟩ := B.has i y h
    exact ⟨c, hc, fun v hv' => let ⟨u, ru, hu⟩ := hv v hv'; ⟨u, ru, cell_up (fun b o z => (e.bs b o z).1) hu⟩⟩⟩
theorem LamB.up (B : LamB base f F params body fr ws) (up : ∀ b o, base.get? b = some o → b2.get? b = some o) : LamB b2 f F params body fr ws :=
  ⟨let ⟨pm, ctv, h⟩ := B.fn; ⟨pm, ctv, up _ _ h⟩, B.len, fun y c h => let ⟨v, z⟩ := B.all y c h; ⟨v, cell_up up z⟩, B.inj, fun i y h => let ⟨c, hc, hv⟩ := B.has i y h; ⟨c, hc, fun v hv' => let ⟨u, ru, hu⟩ := hv v hv'; ⟨u, ru, cell_up up hu⟩⟩⟩
end
theorem lamB_made {X : Cx} {pins : List (Addr × Obj)} {σ : L2.St} {H : Hp} {s : Shared} {b2 : Heap} {f : Addr} {F : NF} {params : Arguments} {body : Expr} {fr : List Str} {js : List Nat} {pm ctv : Value} (I : Inv X pins σ H s) (hfn : ∀ y, X.fn y = true) (cp : Caps X F.cl fr js)
    (hf : s.heap.get? f = some (lamO F params body pm ctv)) (n : H f = none) (nf : f ∉ frs X.stack) (up : ∀ b o, s.heap.get? b = some o → H b = none → b ∉ frs X.stack → b2.get? b = some o) : LamB b2 f F params body fr (js.map (slotAt σ)) := by
  have C := cells_of I cp
  have nc : ∀ y c, F.cl.lookup y = some c → c ∉ frs X.stack := fun y c h hm => by
    have hx := cp.sub y c h
    rcases List.mem_cons.mp (I.stkSub c hm) with e | hb
    · exact I.cne y c hx e
    · have h1 := I.ok.cab y c (hfn y) hx
      obtain ⟨_, o, ho, _⟩ := I.ok.funs.mem hb
      exact absurd (Nat.lt_of_lt_of_le (Heap.lt_size ho) h1) (Nat.lt_irrefl _)
  refine ⟨⟨pm, ctv, up _ _ hf n nf⟩, C.len, fun y c h => ?_, C.inj, fun i y h => ?_⟩
  · obtain ⟨hn, v, o, ho, hd⟩ := C.all y c h
    exact ⟨v, o, up _ _ ho hn (nc y c h), hd⟩
  · obtain ⟨c, hc, hv⟩ := C.has i y h
    refine ⟨c, hc, fun v hv' => ?_⟩
    obtain ⟨u, ru, o, ho, hd⟩ := hv v hv'
    exact ⟨u, ru, o, up _ _ ho (C.all y c hc).1 (nc y c hc), hd⟩
/-! ### what a function of one number promises, at every base that widens this one -/
/-- its answer: a number (the heap as it was), or a new tuple -/
def ansI (g : Int → Int) (n : Int) (H : Hp) : VK := fun v H' => v = .int (g n) ∧ H' = H
def ansT (g : Int → List Int) (n : Int) (H : Hp) : VK := fun v H' => ∃ p, v = .ref p ∧ H p = none ∧ H' = upd H p (.tup ((g n).map V.int))
structure KeyFn (P : Program) (w : World) (K : PySem.W.Frag) (mg : Str → Option Value) (base : Heap) (k : Nat) (f : Addr) (dom : Int → Prop) (Ih : Hp → Prop) (ans : Int → Hp → VK) : Prop where
  fn : PySem.W.FnAt f base
  run : ∀ (b2 : Heap) (A : Around) (outer : List Env) (s : Shared) (H : Hp) (u : Value) (n : Int), (∀ b o, base.get? b = some o → b2.get? b = some o) → Room k A → Env0 P w K mg b2 A outer s H → Ih H → dom n → RelV (.int n) u →
    codeAny (model P w) A (.call (.ref f) ⟨[u], []⟩) (CR CX0 outer P w H s (ans n H) E0) s
section
variable {P : Program} {w : World} {K : PySem.W.Frag} {mg : Str → Option Value} {base : Heap} {k j : Nat} {f : Addr} {dom : Int → Prop} {Ih : Hp → Prop} {ans : Int → Hp → VK}
theorem keyFn_lam {N fr : List Str} {x : Str} {F : NF} {params : Arguments} {body : Expr} {ws : List (Option V)} (S : NScope N [x] fr F.scope) (B : LamB base f F params body fr ws) (hb : ∀ (pm ctv u : Value), bindArgs (PySem.W.kla_fn "<lambda>" F.qual params body F.scope F.cl pm (.ref F.c) ctv) ⟨[u], []⟩ = pure ([x].zip [u]))
    (hc : ∀ H, Ih H → H F.c = some (CodeO F.c F.qual))
    (hbody : ∀ (b2 : Heap) (A : Around) (outer : List Env) (s : Shared) (H : Hp) (n : Int), (∀ b o, base.get? b = some o → b2.get? b = some o) → Room k (A.deeper (envF F f s.heap.objs.size)) → Ih H → dom n →
      ∃ t, PE (ncx CX0 P w K mg b2 N F f A outer s H E0) body t ∧ t (startF N [.int n] ws) H (ans n H)) : KeyFn P w K mg base (k + 1) f dom Ih ans := by
  obtain ⟨pm, ctv, hf⟩ := B.fn
  refine ⟨⟨_, _, _, _, hf⟩, fun b2 A outer s H u n up hr e0 hI hd r => ?_⟩
  have C := (B.up up).cells e0
  have hfs := (e0.bs _ _ (up _ _ hf)).1
  by_cases hr' : Room k (A.deeper (envF F f s.heap.objs.size))
  · obtain ⟨t, ht, hq⟩ := hbody b2 A outer s H n up hr' hI hd
    exact lam_run S hr e0 hfs (hc H hI) C (.cons r .nil) rfl (hb pm ctv u) (fun _ => ht) hq
  · exact absurd (hr.deeper _) hr'
/-- f(e), f a name that holds such a function -/
theorem pe_key {X : Cx} {b0 : Heap} {i : Nat} {x : Str} {p pos : Pos} {e : Expr} {t : TA} (Fn : KeyFn X.prog X.w X.K X.mg b0 k f dom Ih ans) (up : ∀ b o, b0.get? b = some o → X.base.get? b = some o) (hr : Room j X.A) (hk : k ≤ j) (hN : X.N[i]? = some x) (hv : Vis X.env.scope x) (ha : PA X [e] t)
    (hd : (x == ("__debug__" : Str)) = false := by decide) (hcd : (x == ("__classdict__" : Str)) = false := by decide)
    (he : starEach (e :: []) X.env = (false, eval e X.env) :: starEach [] X.env := by rfl) (hpl : (backTo pos (starEach [] X.env)).any (·.1) = false := by rfl) :
    PE X (.Call (.Name x p) [e] [] pos) (fun σ H Q => σ[i]? = some (some (.ref f)) ∧ t σ H fun vs H1 => ∃ n, vs = [.int n] ∧ dom n ∧ Ih H1 ∧ ∀ v H2, ans n H1 v H2 → Q v H2) := by
  refine ⟨fun pins s σ H Q I h => ?_⟩
  obtain ⟨hs, ht⟩ := h
  refine wpAny_Call_Name_kw (thn ((pe_var (pos := p) hN hv hd hcd).run pins s σ H (fun v H1 => v = .ref f ∧ H1 = H) I ⟨.ref f, hs, rfl, rfl⟩) fun u s1 ⟨v, H1, I1, r1, q1⟩ => ?_)
  obtain ⟨ev, eH⟩ := q1
  subst ev
  rw [eH] at I1
  obtain rfl : u = Value.ref f := r1
  have at_ : ∀ {pins : List (Addr × Obj)} {σ : L2.St} {H : Hp} {s : Shared}, Inv X pins σ H s → PySem.W.FnAt f s.heap := fun J => by
    obtain ⟨c, od, fd, sl, ho⟩ := Fn.fn
    exact ⟨c, od, fd, sl, J.bk _ _ (up _ _ ho)⟩
  refine PySem.W.callWith_F (first := []) (at_ I1) (thn (ha.run pos pins s1 σ H _ I1 ht) fun us s2 ⟨vs, H2, I2, r, n, ev, hdm, hI, q⟩ => ⟨at_ I2, ?_⟩) he hpl
  subst ev
  obtain ⟨u, rfl, ru⟩ := vals1 r
  show wpAny _ _ (call (.ref f) [u]) _ _ _
  refine wpAny_call (codeAny_mono (Fn.run X.base X.A X.stack s2 H2 u n up (hr.mono hk) I2.env0 hI hdm ru) fun r s' hq => ?_)
  cases r with
  | error e => exact False.elim hq
  | ok fl =>
    cases fl with
    | ret u => 
      obtain ⟨v, H', J, rv, q'⟩ := I2.after hq
      exact ⟨v, H', J, rv, q v H' q'⟩
    | next => exact False.elim hq
    | brk => exact False.elim hq
    | cont => exact False.elim hq
end
end Ag

set_option maxHeartbeats 8000000
namespace Ag
open PySem PySem.Spec PyProof.Rows L2 LamX NdefX
/-! ### min(xs, key=lambda ..): the first item of the least key -/
/-- a list walked by what it holds, not by the very words that stand there -/
theorem walksV {prog : Program} {w : World} {A : Around} (hh : A.handled = none) (I ax : Addr) (hne : ax ≠ I) (xs : List V) :
    WalksS prog w A I [I, ax] [I] (fun a b => b = a) xs.length (fun i v => ∃ x, xs[i]? = some x ∧ RelV x v) (fun i s => s.heap.IsListIter I ax i ∧ ∃ items : Array Value, s.heap.IsList ax items ∧ Vals xs items.toList) := by
  have sz : ∀ {items : Array Value}, Vals xs items.toList → items.size = xs.length := fun r => by
    have := r.length
    simpa using this.symm
  refine ⟨fun b hb => by simp at hb; simp [hb], fun _ => rfl, fun _ _ _ h1 h2 => h2.trans h1, ?_, ?_, ?_, ?_⟩
  · rintro i s h' tk ⟨h1, items, h2, h3⟩ _ hk
    exact ⟨h1.at fun o e => hk I (by simp) o e, items, h2.at fun o e => hk ax (by simp) o e, h3⟩
  · rintro i s Q E hi ⟨h1, items, h2, h3⟩ hQ
    refine (Walks.list (prog := prog) (w := w) (A := A) hh I ax hne items).toS.item i s Q E (by rw [sz h3]; exact hi) ⟨h1, h2⟩ fun v s' hv st m => ?_
    obtain ⟨x, hx⟩ : ∃ x, xs[i]? = some x := ⟨_, List.getElem?_eq_getElem hi⟩
    obtain ⟨u, hu, ru⟩ := h3.get hx
    have e : v = u := by
      have h4 : items[i]? = some v := hv
      rw [← Array.getElem?_toList, hu] at h4
      exact (Option.some.inj h4).symm
    exact hQ v s' ⟨x, hx, e ▸ ru⟩ ⟨st.1, items, st.2, h3⟩ m
  · rintro s Q E ⟨h1, items, h2, h3⟩ hQ
    exact (Walks.list (prog := prog) (w := w) (A := A) hh I ax hne items).toS.done s Q E ⟨by rw [sz h3]; exact h1, h2⟩ hQ
  · rintro i s Q E ⟨h1, items, h2, h3⟩ hQ
    exact (Walks.list (prog := prog) (w := w) (A := A) hh I ax hne items).toS.self i s Q E ⟨h1, h2⟩ hQ
/-- only new tuples are added -/
structure Ext (H H' : Hp) : Prop where
  same : Same H H'
  new : ∀ b, H b = none → H' b = none ∨ ∃ xs, H' b = some (.tup xs)
theorem Ext.refl (H : Hp) : Ext H H := ⟨Same.refl H, fun b e => .inl e⟩
theorem Ext.tup {H H' : Hp} (e : Ext H H') {p : Addr} {xs : List V} (n : H' p = none) : Ext H (upd H' p (.tup xs)) :=
  ⟨e.same.trans (same_new n), fun b hb => by
    by_cases z : b = p
    · rw [z, upd_same]
      exact .inr ⟨xs, rfl⟩
    · rw [upd_ne z]
      exact e.new b hb⟩
/-! ### the least -/
abbrev lexL := HT.lexLt
theorem lexL_irr : ∀ l : List Int, lexL l l = false
  | [] => rfl
  | x :: r => by
    show (if x = x then lexL r r else _) = false
    rw [if_pos rfl]
    exact lexL_irr r
/-- of three numbers each: not less, and less, make less -/
theorem lexL_trans {a b c : List Int} (ha : a.length = 3) (hb : b.length = 3) (hc : c.length = 3) (h1 : lexL b a = true) (h2 : lexL c a = false) : lexL c b = false := by
  match a, b, c, ha, hb, hc with
  | [a1, a2, a3], [b1, b2, b3], [c1, c2, c3], _, _, _ =>
    simp only [lexL, HT.lexLt_cons, HT.lexLt_nil_nil] at h1 h2 ⊢
    split at h1 <;> split at h2 <;> split <;> first | omega | skip
    all_goals (try split at h1) <;> (try split at h2) <;> (try split) <;> first | omega | skip
    all_goals (try split at h1) <;> (try split at h2) <;> (try split) <;> simp_all <;> omega
theorem best_least (g : Int → List Int) (hg : ∀ n, (g n).length = 3) (ns : List Int) : ∀ k, k < ns.length → argBest (fun i j => lexL (g (ns.getD i 0)) (g (ns.getD j 0))) k ≤ k ∧
    ∀ i, i ≤ k → lexL (g (ns.getD i 0)) (g (ns.getD (argBest (fun i j => lexL (g (ns.getD i 0)) (g (ns.getD j 0))) k) 0)) = false
  | 0, _ => ⟨Nat.le_refl _, fun i hi => by
    obtain rfl : i = 0 := by omega
    exact lexL_irr _⟩
  | k + 1, hk => by
    obtain ⟨i1, i2⟩ := best_least g hg ns k (by omega)
    by_cases hb : lexL (g (ns.getD (k + 1) 0)) (g (ns.getD (argBest (fun i j => lexL (g (ns.getD i 0)) (g (ns.getD j 0))) k) 0)) = true
    · have ea : argBest (fun i j => lexL (g (ns.getD i 0)) (g (ns.getD j 0))) (k + 1) = k + 1 := if_pos hb
      rw [ea]
      refine ⟨Nat.le_refl _, fun i hi => ?_⟩
      by_cases z : i = k + 1
      · rw [z]
        exact lexL_irr _
      · exact lexL_trans (hg _) (hg _) (hg _) hb (i2 i (by omega))
    · have ea : argBest (fun i j => lexL (g (ns.getD i 0)) (g (ns.getD j 0))) (k + 1) = argBest (fun i j => lexL (g (ns.getD i 0)) (g (ns.getD j 0))) k := if_neg hb
      rw [ea]
      refine ⟨by omega, fun i hi => ?_⟩
      by_cases z : i = k + 1
      · rw [z]
        simpa using hb
      · exact i2 i (by omega)
theorem vals_det : ∀ {xs : List V} {us : List Value} {ns : List Int}, Vals xs us → Vals (ns.map V.int) us → xs = ns.map V.int
  | [], _, ns, .nil, h2 => by
    cases ns with
    | nil => rfl
    | cons n r => rw [List.map_cons] at h2; cases h2
  | x :: xs, u :: us, [], .cons a r, h2 => by cases h2
  | x :: xs, u :: us, n :: ns, .cons a r, h2 => by
    rw [List.map_cons] at h2
    cases h2 with
    | cons b r2 =>
      have e : x = .int n := by
        obtain ⟨t, rfl⟩ := b
        cases x <;> first | (obtain ⟨t', e⟩ := a; first | (cases e; done) | (cases e; rfl)) | (exact absurd a (by intro z; cases z)) | (cases a; done)
      rw [e, vals_det r r2]
      rfl
/-! ### the rule -/
section
variable {X : Cx} {pins : List (Addr × Obj)} {σ : L2.St} {H : Hp} {s : Shared} {Q : VK}
theorem un_of {v : Value} {P : Program} {w : World} {outer : List Env} {s' : Shared} (h : CE outer P w H s Q v s') : ∃ H', Un (frs outer) [] H H' s.heap s'.heap ∧ HOk P w H' s'.heap := let ⟨_, H', _, _, un, hok, _⟩ := h; ⟨H', un, hok⟩
theorem min_key {k j : Nat} {a f : Addr} {ns : List Int} {g : Int → List Int} {o : Obj} (I : Inv X pins σ H s) (hc : X.calm = true) (hr : Room (j + 1) X.A) (hk : k ≤ j) (hL : H a = some (.lst (ns.map V.int))) (hne : ns ≠ []) (hg : ∀ n, (g n).length = 3)
    (hf : s.heap.get? f = some o) (nf : H f = none) (ff : f ∉ frs X.stack)
    (Fn : ∀ b2 : Heap, (∀ b o, X.base.get? b = some o → b2.get? b = some o) → (∀ b o, s.heap.get? b = some o → H b = none → b ∉ frs X.stack → b2.get? b = some o) → KeyFn X.prog X.w X.K X.mg b2 k f (· ∈ ns) (Ext H) (ansT g))
    (q : ∀ m H', Ext H H' → m ∈ ns → (∀ n ∈ ns, lexL (g n) (g m) = false) → Q (.int m) H') :
    wpAny (model X.prog X.w) X.A (call (.builtin "min") [.ref a] [(Str.ofString "key", .ref f)]) (EP X pins σ Q) X.xe s := by
  have hu : X.A.units + 64 < cLine := hr.units
  obtain ⟨b2, e2, up2, in2⟩ := env0_rebase I.env0
  have Fn2 := Fn b2 up2 in2
  obtain ⟨its, rv, pl, hz⟩ := I.list (SqL.of hL)
  have hsz : its.length = ns.length := by rw [← rv.length, List.length_map]
  refine call_min_walkK (wpAny_pyIter_list pl.isList ?_)
  have hlt : a < s.heap.objs.size := by obtain ⟨_, e, _⟩ := pl.isList; exact Heap.lt_size e
  have kp : ∀ b o, s.heap.get? b = some o → (s.heap.push { cls := .type "list_iterator", data := .fields #[.ref a, .int 0 0] }).get? b = some o := fun b o e => Heap.get?_push_of_some _ e
  -- where the walk's own things stand
  have hr1 : Room j X.A.in1 := hr.in1
  generalize hs2 : ({ s with heap := s.heap.push { cls := .type "list_iterator", data := .fields #[.ref a, .int 0 0] } } : Shared) = s2
  have h2 : s2.heap = s.heap.push { cls := .type "list_iterator", data := .fields #[.ref a, .int 0 0] } := by rw [← hs2]
  have sz2 : s2.heap.objs.size = s.heap.objs.size + 1 := by rw [h2, Heap.size_push]
  have fI : FpOk X pins H s.heap.objs.size := I.fpOk (Nat.le_refl _) (I.hok.fresh (Nat.le_refl _))
  have fS : FpOk X pins H s2.heap.objs.size := I.fpOk (by omega) (I.hok.fresh (by omega))
  have I2 : Inv X pins σ H s2 := by
    rw [← hs2]
    exact I.kept (t' := s.toks) kp
  have nst : ∀ {H' : Hp} {b : Addr}, FpOk X pins H' b → b ∉ frs X.stack := fun f hm => by
    rcases List.mem_cons.mp (I.stkSub _ hm) with e | e
    · exact f.2.1 e
    · exact f.2.2.1 e
  have lt2 : ∀ {b : Addr} {ob : Obj}, s.heap.get? b = some ob → b ≠ s.heap.objs.size ∧ b ≠ s2.heap.objs.size := fun e =>
    ⟨Nat.ne_of_lt (Heap.lt_size e), Nat.ne_of_lt (Nat.lt_of_lt_of_le (Heap.lt_size e) (by rw [sz2]; exact Nat.le_succ _))⟩
  have hli : s2.heap.IsListIter s.heap.objs.size a 0 := by
    rw [h2]
    exact ⟨_, Heap.get?_push_size _ rfl, rfl, rfl⟩
  have hl2 : ∃ items : Array Value, s2.heap.IsList a items ∧ Vals (ns.map V.int) items.toList := by
    rw [h2]
    exact ⟨its.toArray, pl.isList.push _, by simpa using rv⟩
  have hI1 : s.heap.objs.size < s2.heap.objs.size := by rw [sz2]; exact Nat.lt_succ_self _
  revert fI fS hli lt2 hI1
  generalize s.heap.objs.size = It at *
  generalize hSS : s2.heap.objs.size = S
  intro fI fS lt2 hli hI1
  have nIS : It ≠ S := Nat.ne_of_lt hI1
  have hlen : (ns.map V.int).length = ns.length := List.length_map ..
  refine ⟨It, [It, a], [It], (fun a b => b = a), (ns.map V.int).length, (fun i v => ∃ x, (ns.map V.int)[i]? = some x ∧ RelV x v), (fun i s => s.heap.IsListIter It a i ∧ ∃ items : Array Value, s.heap.IsList a items ∧ Vals (ns.map V.int) items.toList),
    (fun s' => ∃ H', Inv X pins σ H' s' ∧ Ext H H' ∧ FpOk X pins H' S ∧ FpOk X pins H' It ∧ ∀ b o, s.heap.get? b = some o → H b = none → b ∉ frs X.stack → s'.heap.get? b = some o ∧ H' b = none),
    (fun i k s' => ∃ t its n, k = .ref t ∧ ns[i]? = some n ∧ H t = none ∧ t ∉ frs X.stack ∧ t ≠ S ∧ t ≠ It ∧ IsTup s'.heap t its ∧ IntsAre its.toList (g n)),
    (fun i j => lexL (g (ns.getD i 0)) (g (ns.getD j 0))), rfl, walksV (A := X.A.in1) (I.ok.hd hc) It a (Nat.ne_of_lt hlt) _, ⟨hli, hl2⟩, ?_, ?_, ?_, ?_, ?_⟩
  · intro b hb
    rcases List.mem_cons.mp hb with z | hb
    · rw [z]
      exact hI1
    · rcases List.mem_cons.mp hb with z | hb
      · rw [z]
        exact Nat.lt_trans hlt hI1
      · cases hb
  · rw [hlen]
    exact List.length_pos_iff.mpr hne
  · refine ⟨?_, ?_, ?_, ?_⟩
    · -- what min itself turns
      rintro sa sb ⟨H', I', E', fS', fI', KU⟩ m
      obtain ⟨h1, g1, d1, t1, o1⟩ := sb
      have hg1 : g1 = sa.gens := m.gens
      have hd1 : d1 = sa.drawn := m.drawn
      have ho1 : o1 = sa.os := m.os
      subst hg1 hd1 ho1
      refine ⟨H', I'.turnedL (ch := [S, It]) (fun b o hb e => m.heap b o hb e) (fun b hb => ?_), E', fS', fI', fun b o e n nf => ⟨m.heap b o (fun hm => ?_) (KU b o e n nf).1, (KU b o e n nf).2⟩⟩
      · rcases List.mem_cons.mp hb with rfl | hb
        · exact fS'
        · rw [List.mem_singleton.mp hb]
          exact fI'
      · rcases List.mem_cons.mp hm with z | z
        · exact (lt2 e).2 z
        · exact (lt2 e).1 (List.mem_singleton.mp z)
    · rintro i k sa sb ⟨t, its, n, rfl, hn, ht, nf, tS, tI, ⟨ob, e1, e2⟩, hi⟩ m
      refine ⟨t, its, n, rfl, hn, ht, nf, tS, tI, ⟨ob, m.heap t ob (fun hm => ?_) e1, e2⟩, hi⟩
      rcases List.mem_cons.mp hm with z | z
      · exact tS z
      · exact tI (List.mem_singleton.mp z)
    · -- a key
      rintro i v sa ob Qk Ek hi ⟨x, hx, rx⟩ ⟨H', I', E', fS', fI', KU⟩ ⟨st1, items, st2, st3⟩ hS hQ
      obtain ⟨n, hn, rfl⟩ : ∃ n, ns[i]? = some n ∧ x = .int n := by
        rw [List.getElem?_map] at hx
        cases e : ns[i]? with
        | none => rw [e] at hx; cases hx
        | some n => rw [e] at hx; exact ⟨n, rfl, (Option.some.inj hx).symm⟩
      obtain ⟨b3, e3, up3, in3⟩ := env0_rebase I'.env0.in1
      refine wpAny_call (codeAny_mono (Fn2.run b3 X.A.in1 X.stack sa H' v n (fun b o hb => ?_) (hr1.mono hk) e3 E' (List.mem_of_getElem? hn) rx) fun r s' hq => ?_)
      · have h1 := e2.bs b o hb
        have h3 : b ∉ frs X.stack := fun hm => by
          rw [(e2.funs.mem hm).1] at hb
          cases hb
        obtain ⟨h4, h5⟩ := KU b o h1.1 h1.2 h3
        exact in3 b o h4 h5 h3
      cases r with
      | error e => exact False.elim hq
      | ok fl =>
        cases fl with
        | next => exact False.elim hq
        | brk => exact False.elim hq
        | cont => exact False.elim hq
        | ret u =>
          obtain ⟨v', H'', os, bare, un, hok, rv', p, rfl, hp, rfl⟩ := hq
          obtain rfl : u = .ref p := rv'
          have J2 : Inv X pins σ (upd H' p (.tup ((g n).map V.int))) s' := by
            obtain ⟨v2, H2, J, _, hv2, hH2⟩ := I'.after (Q := fun v2 H2 => v2 = .ref p ∧ H2 = upd H' p (.tup ((g n).map V.int))) (u := .ref p) ⟨.ref p, _, os, bare, un, hok, rfl, rfl, rfl⟩
            rw [hH2] at J
            exact J
          have stay : ∀ b o, sa.heap.get? b = some o → H' b = none → b ∉ frs X.stack → s'.heap.get? b = some o := fun b o e n nf => un.keep b o e n nf (by simp)
          have free : ∀ b o, sa.heap.get? b = some o → H' b = none → upd H' p (.tup ((g n).map V.int)) b = none := fun b o e n => un.free b o e n (by simp)
          obtain ⟨oi, hoi, hoi2⟩ := id st1
          have fS2 : FpOk X pins (upd H' p (.tup ((g n).map V.int))) S := ⟨free _ _ hS fS'.1, fS'.2⟩
          have fI2 : FpOk X pins (upd H' p (.tup ((g n).map V.int))) It := ⟨free _ _ hoi fI'.1, fI'.2⟩
          have hpp : upd H' p (.tup ((g n).map V.int)) p = some (.tup ((g n).map V.int)) := upd_same
          have npS : p ≠ S := ne_of_none hpp fS2.1
          have npI : p ≠ It := ne_of_none hpp fI2.1
          have nps : p ∉ frs X.stack := fun hm => by
            have := J2.stkFree p hm
            rw [hpp] at this
            cases this
          have nHp : H p = none := E'.same.free hp
          refine hQ (.ref p) s' ⟨_, J2, E'.tup hp, fS2, fI2, fun b o e n nf => ?_⟩ ⟨st1.at fun o e => stay _ _ e fI'.1 (nst fI'), ?_⟩ (stay _ _ hS fS'.1 (nst fS')) ?_ ?_
          · obtain ⟨k1, k2⟩ := KU b o e n nf
            exact ⟨stay _ _ k1 k2 nf, free _ _ k1 k2⟩
          · have hL2 : upd H' p (.tup ((g n).map V.int)) a = some (.lst (ns.map V.int)) := (E'.tup hp).same _ _ hL
            obtain ⟨its2, rv2, pl2, _⟩ := J2.list (SqL.of hL2)
            exact ⟨its2.toArray, pl2.isList, by simpa using rv2⟩
          · obtain ⟨z1, its3, rv3, tp3⟩ := hok p _ hpp
            exact ⟨p, its3.toArray, n, rfl, hn, nHp, nps, npS, npI, tp3, by simpa using rv3.ints⟩
          · rintro j k' ⟨t, its3, n3, rfl, hn3, ht, nf, tS, tI, tp, hi3⟩
            refine ⟨t, ?_⟩
            rcases E'.new t ht with z | ⟨xs, z⟩
            · obtain ⟨ot, e1, e2'⟩ := tp
              exact ⟨its3, n3, rfl, hn3, ht, nf, tS, tI, ⟨ot, stay _ _ e1 z nf, e2'⟩, hi3⟩
            · obtain ⟨_, its4, rv4, tp4⟩ := I'.hok t _ z
              have z2 := un.tups t xs z
              obtain ⟨_, its5, rv5, tp5⟩ := hok t _ z2
              have e4 : its3 = its4.toArray := by
                obtain ⟨oa, a1, a2, na, a3⟩ := tp
                obtain ⟨oc, b1, b2', nb, b3'⟩ := tp4
                rw [a1] at b1
                cases b1
                rw [a3] at b3'
                cases b3'
                rfl
              subst e4
              have hi4 : IntsAre its4 (g n3) := by simpa using hi3
              have ex : xs = (g n3).map V.int := by
                have r1 := vals_of_ints hi4
                exact vals_det rv4 r1
              subst ex
              exact ⟨its5.toArray, n3, rfl, hn3, ht, nf, tS, tI, tp5, by simpa using rv5.ints⟩
    · rintro i j ki kj sa Qk Ek _ ⟨t1, its1, n1, rfl, hn1, _, _, _, _, tp1, hi1⟩ ⟨t2, its2, n2, rfl, hn2, _, _, _, _, tp2, hi2⟩ hQ
      refine HT.lt_tupInts tp1 tp2 hi1 hi2 (by show X.A.units + 1 < cLine; omega) ?_
      rw [getD_of hn1, getD_of hn2] at hQ
      exact hQ
  · exact ⟨H, I2, Ext.refl H, fS, fI, fun b o e n nf => ⟨by rw [h2]; exact kp b o e, n⟩⟩
  · rintro v s' ⟨x, hx, rx⟩ ⟨H', I', E', _, _, _⟩
    have hpos : 0 < ns.length := List.length_pos_iff.mpr hne
    obtain ⟨b1, b2'⟩ := best_least g hg ns (ns.length - 1) (by omega)
    rw [hlen] at hx
    revert hx b1 b2'
    generalize argBest (fun i j => lexL (g (ns.getD i 0)) (g (ns.getD j 0))) (ns.length - 1) = z
    intro hx b1 b2'
    obtain ⟨m, hm⟩ : ∃ m, ns[z]? = some m := ⟨_, List.getElem?_eq_getElem (by omega)⟩
    rw [List.getElem?_map, hm] at hx
    obtain rfl : x = .int m := (Option.some.inj hx).symm
    refine ⟨.int m, H', I', rx, q m H' E' (List.mem_of_getElem? hm) fun n hn => ?_⟩
    obtain ⟨i, hi, e⟩ := List.getElem_of_mem hn
    have := b2' i (by omega)
    rw [getD_of hm, getD_of (List.getElem?_eq_getElem hi), e] at this
    exact this
end
end Ag

set_option maxHeartbeats 8000000
namespace Ag
open PySem PySem.Spec PyProof.Rows L2 LamX NdefX
/-! ### a def whose code object is known by its place -/
structure FunC (K : PySem.W.Frag) (x qual : Str) (st : Stmt) (f : Addr) (fd : FuncData) (c : Addr) : Prop where
  ex : ∃ (oc : Value) (od : Option Addr) (kV doc pm : Value) (an : Option Addr) (ct : Value) (osl : Array (Option Value)),
    fd = PySem.W.fnOf x qual (defArgs st) (defBody st) (defScope st) .none kV doc pm an (.ref c) ct ∧ K.lookup f = some ⟨oc, od, .func fd, osl⟩ ∧ PySem.W.codeIn K (.ref c) qual = true
  kp : PySem.W.keepIn K (.ref f) = true
section
variable {P : Program} {w : World} {K : PySem.W.Frag} {mg : Str → Option Value} {base : Heap}
theorem FunC.ok {x qual : Str} {st : Stmt} {f c : Addr} {fd : FuncData} {N ps : List Str} {k : Nat} {sp : Sp} (F : FunC K x qual st f fd c) (S : FnScope N ps (defScope st)) (len : ∀ vs H Q E, sp vs H Q E → vs.length = ps.length)
    (hbody : ∀ (A : Around) (outer : List Env) (s : Shared) (H : Hp) (vs : List V) (Q : VK) (E : XK), Room k (A.deeper (envOfC qual (defScope st) s.heap.objs.size f (.ref c))) → sp vs H Q E →
      ∃ t, PSs (cxOf CX0 P w K mg base N qual (defScope st) f (.ref c) A outer s H E).nox (defBody st) t ∧ t { nx := fun _ H' => Q .non H', rt := Q } (start N vs) H) : FnOk P w K mg base CX0 (k + 1) f fd ps sp := by
  obtain ⟨oc, od, kV, doc, pm, an, ct, osl, rfl, lk, hcd⟩ := F.ex
  refine fn_of lk hcd S len fun A outer s H vs Q E hr hsp => ?_
  obtain ⟨t, h, q⟩ := hbody A outer s H vs Q E hr hsp
  exact ⟨t, h.nox, q⟩
theorem FunC.binds {x qual : Str} {st : Stmt} {f c : Addr} {fd : FuncData} {ps : List Str} (F : FunC K x qual st f fd c)
    (h : ∀ (kV doc pm : Value) (an : Option Addr) (cdv ct : Value) (us : List Value), us.length = ps.length → bindArgs (PySem.W.fnOf x qual (defArgs st) (defBody st) (defScope st) .none kV doc pm an cdv ct) ⟨us, []⟩ = pure (ps.zip us)) : Binds K fd ps [] := by
  obtain ⟨oc, od, kV, doc, pm, an, ct, osl, rfl, lk, hcd⟩ := F.ex
  exact .all (h kV doc pm an (.ref c) ct)
end
/-! ### lambdas as arguments: what they ask of the running def -/
structure LamC (X : Cx) (T : List (Addr × Str)) (c P : Addr) (params : Arguments) (scope : Scope) (fr : List Str) (js : List Nat) : Prop where
  tb : TabB X.base X.mg c P
  code : X.env.code = .ref c
  mem : (P, X.env.qual ++ "<lambda>") ∈ T
  one : ∀ p ∈ T, p.1 = P → p.2 = X.env.qual ++ "<lambda>"
  dfl : defaultsOf params X.env = ([], [])
  fn : ∀ y, X.fn y = true
  free : ∀ y ∈ scope.names, y.2 = .free → X.env.scope.names.lookup y.1 = some .cell ∨ X.env.scope.names.lookup y.1 = some .free
  frs : ∀ y ∈ fr, (y, NameKind.free) ∈ scope.names
  jss : js.map (fun j => X.N[j]?) = fr.map some
abbrev lamF (X : Cx) (params : Arguments) (scope : Scope) (c' : Addr) : NF := ⟨"<lambda>", X.env.qual ++ "<lambda>", params, [], scope, cloFrom X.env.cells scope.names [], c'⟩
section
variable {X : Cx} {T : List (Addr × Str)} {c P : Addr} {params : Arguments} {body : Expr} {scope : Scope} {fr : List Str} {js : List Nat} {k j : Nat}
def one1 (R : V → Hp → Prop) : List V → Hp → Prop
  | [v], H => R v H
  | _, _ => False
theorem one1_of {R : V → Hp → Prop} : ∀ {vs : List V} {H : Hp}, one1 R vs H → ∃ v, vs = [v] ∧ R v H
  | [v], _, h => ⟨v, rfl, h⟩
  | [], _, h => h.elim
  | _ :: _ :: _, _, h => h.elim
/-- min(e, key=lambda ..) -/
def tMinL (X : Cx) (T : List (Addr × Str)) (params : Arguments) (body : Expr) (scope : Scope) (fr : List Str) (js : List Nat) (k : Nat) (te : TE) : TE := fun σ H Q => te σ H fun v H1 => Tabs T H1 ∧ ∃ (a : Addr) (ns : List Int), v = .ref a ∧ H1 a = some (.lst (ns.map V.int)) ∧ ns ≠ [] ∧
  ∀ (c' : Addr) (H2 : Hp), ExtN H1 H2 → Tabs T H2 → H2 c' = some (CodeO c' (X.env.qual ++ "<lambda>")) → ∃ g : Int → List Int, (∀ n, (g n).length = 3) ∧
    (∀ (b2 : Heap) (f : Addr), (∀ b o, X.base.get? b = some o → b2.get? b = some o) → LamB b2 f (lamF X params scope c') params body fr (js.map (slotAt σ)) → KeyFn X.prog X.w X.K X.mg b2 k f (· ∈ ns) (Ext H2) (ansT g)) ∧
    ∀ m H', Ext H2 H' → m ∈ ns → (∀ n ∈ ns, lexL (g n) (g m) = false) → Q (.int m) H'
theorem pe_minL {p lpos kpos pos : Pos} {e : Expr} {te : TE} (L : LamC X T c P params scope fr js) (hc : X.calm = true) (hr : Room (j + 1) X.A) (hk : k ≤ j) (hg : Gl X "min") (hm : X.mg "min" = none) (he0 : PE X e te) (hs0 : starEach [e] X.env = (false, eval e X.env) :: starEach [] X.env := by rfl)
    (he : backTo pos (starEach (e :: []) X.env) = (false, eval e X.env) :: backTo pos (starEach [] X.env) := by rfl) (hpl : (backTo pos (starEach (e :: []) X.env)).any (·.1) = false := by rfl)
    (hall : (backToKw pos (keywordEach [⟨some "key", .Lambda params body scope lpos, kpos⟩] X.env)).all (·.1.isSome) = true := by rfl) (hnone : (backToKw pos (keywordEach [⟨some "key", .Lambda params body scope lpos, kpos⟩] X.env)).any (·.1.isNone) = false := by rfl)
    (hks : (backToKw pos (keywordEach [⟨some "key", .Lambda params body scope lpos, kpos⟩] X.env)).filterMap (·.1) = [Str.ofString "key"] := by rfl) :
    PE X (.Call (.Name "min" p) [e] [⟨some "key", .Lambda params body scope lpos, kpos⟩] pos) (tMinL X T params body scope fr js k te) := by
  refine ⟨fun pins s σ H Q I h => ?_⟩
  have hfree : ∀ y ∈ scope.names, y.2 = .free → ∃ c, X.env.cells.lookup y.1 = some c := fun y hy e => (L.free y hy e).elim (fun z => I.ok.has _ (.inl z)) fun z => I.ok.has _ (.inr z)
  refine wpAny_Call_Name_kw (ld_blt I hg hm (by decide +kernel : bootBuiltins "min" = some (.builtin "min")) ?_ (by decide) (by decide))
  refine PyProof.Rows.callWith_kw (thn ((pa_cons he0 pa_nil hs0).run pos pins s σ H (one1 _) I h) fun us s1 ⟨vs, H1, I1, r1, q1⟩ => ?_) he hpl hall hnone
  rw [hks]
  obtain ⟨v, rfl, hT, a, ns, rfl, hL, hne, q1⟩ := one1_of q1
  obtain ⟨u, rfl, ru⟩ := vals1 r1
  obtain rfl : u = .ref a := ru
  show wpAny _ _ (evalAll ((do let v ← eval (.Lambda params body scope lpos) X.env; standAt pos; pure v) :: [])) _ _ s1
  refine wpAny_evalAll_cons (wpAny_bind (lam_make2 I1 L.tb L.code L.mem L.one hT L.dfl hfree fun f c' pm ctv H2 s2 I2 eN T2 hf nf nfr hc' => wpAny_bind (wpAny_standAt (wpAny_pure ?_))))
  refine wpAny_evalAll_nil ?_
  obtain ⟨g, hg3, Fn, q2⟩ := q1 c' H2 eN T2 hc'
  have hL2 : H2 a = some (.lst (ns.map V.int)) := eN _ _ hL (fun ps z => by cases z)
  refine min_key I2 hc hr hk hL2 hne hg3 hf nf nfr (fun b2 up in2 => Fn b2 f up ?_) q2
  exact lamB_made I2 L.fn (Caps.made I2.ok L.free L.frs L.jss) hf nf nfr in2
/-- o.m(e, lambda ..): the lambda is told to the method as a function in a wider base -/
def tMethL (X : Cx) (T : List (Addr × Str)) (params : Arguments) (body : Expr) (scope : Scope) (fr : List Str) (js : List Nat) (k : Nat) (C fm : Addr) (fd : FuncData) (ps : List Str) (m : Str) (ta te : TE) : TE := fun σ H Q => ta σ H fun x H1 => ∃ a dx fs, x = .ref a ∧ H1 a = some (.ins C dx fs) ∧ fs.lookup m = none ∧
  te σ H1 fun y H2 => Tabs T H2 ∧ ∀ (c' : Addr) (H3 : Hp), ExtN H2 H3 → Tabs T H3 → H3 c' = some (CodeO c' (X.env.qual ++ "<lambda>")) → ∃ sp : Addr → Sp,
    (∀ (b2 : Heap) (f : Addr), (∀ b o, X.base.get? b = some o → b2.get? b = some o) → X.K.In b2 → b2.Ns mainGlobals X.mg → LamB b2 f (lamF X params scope c') params body fr (js.map (slotAt σ)) → FnOk X.prog X.w X.K X.mg b2 CX0 k fm fd ps (sp f)) ∧
    ∀ f, sp f [.ref a, y, .ref f] H3 Q E0
theorem pe_methL {o e1 : Expr} {m : Str} {apos lpos pos : Pos} {C fm : Addr} {fd : FuncData} {ps : List Str} {ta te : TE} {pl : Sem Bool} (L : LamC X T c P params scope fr js) (ho : PE X o ta) (he : PE X e1 te) (cl : Cls X.K C) (hm : Meth X.K C m fm) (hr : Room k X.A) (hb : Binds X.K fd ps [])
    (hst : starEach [e1, .Lambda params body scope lpos] X.env = (false, eval e1 X.env) :: starEach [.Lambda params body scope lpos] X.env := by rfl) (hpl : (backTo pos (starEach [.Lambda params body scope lpos] X.env)).any (·.1) = false := by rfl)
    (hst2 : starEach [.Lambda params body scope lpos] X.env = (false, eval (.Lambda params body scope lpos) X.env) :: starEach [] X.env := by rfl)
    (ht : eval (.Call (.Attribute o m apos) [e1, .Lambda params body scope lpos] [] pos) X.env = (do
      let ov ← eval o X.env
      standAt apos.atName
      let (f, first) ← holding [ov] (getMethod ov m pl)
      callWith pos f first (backTo pos (starEach [e1, .Lambda params body scope lpos] X.env)) (backToKw pos (keywordEach [] X.env))) := by rfl) :
    PE X (.Call (.Attribute o m apos) [e1, .Lambda params body scope lpos] [] pos) (tMethL X T params body scope fr js k C fm fd ps m ta te) := by
  refine ⟨fun pins s σ H Q I h => ?_⟩
  have hfree : ∀ y ∈ scope.names, y.2 = .free → ∃ c, X.env.cells.lookup y.1 = some c := fun y hy e => (L.free y hy e).elim (fun z => I.ok.has _ (.inl z)) fun z => I.ok.has _ (.inr z)
  refine PySem.W.methodCall_KW (pl := pl) (thn (ho.run pins s σ H _ I h) fun u s1 ⟨x, H1, I1, rx, a, dx, fs, ex, ea, l, q⟩ => ?_) ht
  subst ex
  obtain rfl : u = Value.ref a := rx
  refine getmeth_ok I1 ea cl hm l ?_
  refine PySem.W.callWith_K (first := [.ref a]) (h₀ := X.base) I.ok.mod.kin hm.kp ?_ hst hpl
  rw [hst]
  show wpAny _ _ (spliced ((false, eval e1 X.env) :: backTo pos (starEach [.Lambda params body scope lpos] X.env))) _ _ s1
  refine Calls.spliced_cons (thn (he.run pins s1 σ H1 _ I1 q) fun u2 s2 ⟨y, H2, I2, r2, hT, q2⟩ => ?_)
  rw [hst2]
  show wpAny _ _ (spliced ((false, eval (.Lambda params body scope lpos) X.env) :: backTo pos (starEach [] X.env))) _ _ s2
  refine Calls.spliced_cons (lam_make2 I2 L.tb L.code L.mem L.one hT L.dfl hfree fun f c' pm ctv H3 s3 I3 eN T3 hf nf nfr hc' => ?_)
  refine Calls.spliced_nil ⟨I3.kIn, ?_⟩
  obtain ⟨sp, Fn, q3⟩ := q2 c' H3 eN T3 hc'
  obtain ⟨b2, e2, up2, in2⟩ := env0_rebase I3.env0
  have F := Fn b2 f up2 e2.mod.kin e2.mod.glob (lamB_made I3 L.fn (Caps.made I3.ok L.free L.frs L.jss) hf nf nfr in2)
  have r3 : Vals [V.ref a, y, .ref f] [Value.ref a, u2, .ref f] := .cons rfl (.cons r2 (.cons rfl .nil))
  have q4 := q3 f
  have hl : ([Value.ref a, u2, .ref f] ++ []).length = ps.length := by
    have := F.len _ _ _ _ q4
    exact this
  show wpAny _ _ (call (.ref fm) [.ref a, u2, .ref f]) _ _ _
  refine wpAny_call (codeAny_mono (F.run X.A X.stack s3 H3 ⟨[.ref a, u2, .ref f], []⟩ ([.ref a, u2, .ref f] ++ []) [.ref a, y, .ref f] Q E0 hr e2 (hb s3 _ I3.kIn hl) r3 q4) fun r s' hq => ?_)
  cases r with
  | error e => exact False.elim hq
  | ok fl =>
    cases fl with
    | ret u => exact I3.after hq
    | next => exact False.elim hq
    | brk => exact False.elim hq
    | cont => exact False.elim hq
end
end Ag

namespace Ag
open PySem PySem.Spec PyProof.Rows L2 LamX NdefX
/-! ### what an arm chooses -/
structure ArmS where
  now : Int
  here : Int
  up : Bool
  left : List Nat
def come (l : List Ask) (n : Nat) : Int := (l.getD n (0, 0, 0)).1
def trk (l : List Ask) (n : Nat) : Int := (l.getD n (0, 0, 0)).2.1
/-- the first of the least keys -/
def pick (g : Nat → List Int) : List Nat → Nat
  | [] => 0
  | x :: r => r.foldl (fun a y => if lexL (g y) (g a) then y else a) x
theorem lexL_anti {a b : List Int} (ha : a.length = 3) (hb : b.length = 3) (h1 : lexL a b = false) (h2 : lexL b a = false) : a = b := by
  match a, b, ha, hb with
  | [a1, a2, a3], [b1, b2, b3], _, _ =>
    have key : ∀ x y : Int, decide (x < y) = false → decide (y < x) = false → x = y := fun x y h h' => by
      have h := of_decide_eq_false h
      have h' := of_decide_eq_false h'
      omega
    unfold lexL at h1 h2
    rw [HT.lexLt_cons] at h1 h2
    by_cases e1 : a1 = b1
    · rw [if_pos e1, HT.lexLt_cons] at h1
      rw [if_pos e1.symm, HT.lexLt_cons] at h2
      by_cases e2 : a2 = b2
      · rw [if_pos e2, HT.lexLt_cons] at h1
        rw [if_pos e2.symm, HT.lexLt_cons] at h2
        by_cases e3 : a3 = b3
        · rw [e1, e2, e3]
        · rw [if_neg e3] at h1
          rw [if_neg (fun z => e3 z.symm)] at h2
          exact absurd (key _ _ h1 h2) e3
      · rw [if_neg e2] at h1
        rw [if_neg (fun z => e2 z.symm)] at h2
        exact absurd (key _ _ h1 h2) e2
    · rw [if_neg e1] at h1
      rw [if_neg (fun z => e1 z.symm)] at h2
      exact absurd (key _ _ h1 h2) e1
theorem pick_least (g : Nat → List Int) (hg : ∀ n, (g n).length = 3) : ∀ (r : List Nat) (x : Nat), r.foldl (fun a y => if lexL (g y) (g a) then y else a) x ∈ x :: r ∧
    ∀ n ∈ x :: r, lexL (g n) (g (r.foldl (fun a y => if lexL (g y) (g a) then y else a) x)) = false
  | [], x => ⟨List.mem_cons_self, fun n hn => by
    rcases List.mem_cons.mp hn with rfl | hn
    · exact lexL_irr _
    · cases hn⟩
  | y :: r, x => by
    rw [List.foldl_cons]
    obtain ⟨h1, h2⟩ := pick_least g hg r (if lexL (g y) (g x) then y else x)
    revert h1 h2
    generalize List.foldl (fun a y => if lexL (g y) (g a) then y else a) (if lexL (g y) (g x) then y else x) r = m
    intro h1 h2
    refine ⟨?_, fun n hn => ?_⟩
    · rcases List.mem_cons.mp h1 with h | h
      · rw [h]
        split
        · exact List.mem_cons_of_mem _ List.mem_cons_self
        · exact List.mem_cons_self
      · exact List.mem_cons_of_mem _ (List.mem_cons_of_mem _ h)
    · have h0 := h2 _ List.mem_cons_self
      rcases List.mem_cons.mp hn with rfl | hn
      · by_cases hb : lexL (g y) (g n) = true
        · rw [if_pos hb] at h0
          cases hz : lexL (g n) (g m) with
          | false => rfl
          | true =>
            have := lexL_trans (hg m) (hg n) (hg y) hz h0
            rw [this] at hb
            cases hb
        · rw [if_neg hb] at h0
          exact h0
      · rcases List.mem_cons.mp hn with rfl | hn
        · by_cases hb : lexL (g n) (g x) = true
          · rw [if_pos hb] at h0
            exact h0
          · rw [if_neg hb] at h0
            have hb' : lexL (g n) (g x) = false := by simpa using hb
            cases hz : lexL (g n) (g m) with
            | false => rfl
            | true =>
              have h3 : lexL (g x) (g m) = false := h0
              cases hq : lexL (g m) (g x) with
              | false =>
                have e := lexL_anti (hg x) (hg m) h3 hq
                rw [← e] at hz
                rw [hz] at hb'
                cases hb'
              | true =>
                have := lexL_trans (hg x) (hg m) (hg n) hq hb'
                rw [this] at hz
                cases hz
        · exact h2 n (List.mem_cons_of_mem _ hn)
theorem pick_mem {g : Nat → List Int} (hg : ∀ n, (g n).length = 3) {l : List Nat} (h : l ≠ []) : pick g l ∈ l := by
  cases l with
  | nil => exact absurd rfl h
  | cons x r => exact (pick_least g hg r x).1
theorem pick_le {g : Nat → List Int} (hg : ∀ n, (g n).length = 3) {l : List Nat} {n : Nat} (hn : n ∈ l) : lexL (g n) (g (pick g l)) = false := by
  cases l with
  | nil => cases hn
  | cons x r => exact (pick_least g hg r x).2 n hn
/-- the least is this one, if the keys tell apart -/
theorem pick_is {g : Nat → List Int} (hg : ∀ n, (g n).length = 3) (inj : ∀ m n, g m = g n → m = n) {l : List Nat} {m : Nat} (hm : m ∈ l) (h : ∀ n ∈ l, lexL (g n) (g m) = false) : m = pick g l := by
  have hne : l ≠ [] := List.ne_nil_of_mem hm
  exact inj _ _ (lexL_anti (hg _) (hg _) (pick_le hg hm) (h _ (pick_mem hg hne)))
/-- the key with come and number behind it -/
def key3 (l : List Ask) (g : Nat → Int) (n : Nat) : List Int := [g n, come l n, (n : Int)]
theorem key3_len (l : List Ask) (g : Nat → Int) (n : Nat) : (key3 l g n).length = 3 := rfl
theorem key3_inj (l : List Ask) (g : Nat → Int) (m n : Nat) (h : key3 l g m = key3 l g n) : m = n := by
  unfold key3 at h
  injection h with _ h
  injection h with _ h
  injection h with h _
  omega
end Ag

namespace Ag
open PySem PySem.Spec PyProof.Rows L2 LamX NdefX
theorem pe_fldK {X : Cx} {K : PySem.W.Frag} {e : Expr} {f : Str} {pos : Pos} {ta : TE} (he : PE X e ta) (hK : X.K = K := by rfl) (hb : attributeBase e f X.env (eval e X.env) = eval e X.env := by rfl) : PE X (.Attribute e f pos) (tFld K ta f) := by
  subst hK
  exact pe_fld he hb
theorem rd_seq {a b : TS} {D : Ends} {σ : L2.St} {H : Hp} (h : a { D with nx := b D } σ H) : tSeq a b D σ H := h
theorem rd_if {c : TT} {a b : TS} {D : Ends} {σ : L2.St} {H : Hp} (h : c σ H fun k H1 => if k = true then a D σ H1 else b D σ H1) : tIfS c a b D σ H := h
theorem rd_test {t : TE} {σ : L2.St} {H : Hp} {Q : Bool → Hp → Prop} (h : t σ H fun x H' => ∃ k, x = .bl k ∧ Q k H') : tTest t σ H Q := h
theorem rd_op {r : R2} {ta tb : TE} {σ : L2.St} {H : Hp} {Q : VK} (h : ta σ H fun x H1 => tb σ H1 fun y H2 => r x y H2 Q) : tOp r ta tb σ H Q := h
theorem rd_ret {t : TE} {D : Ends} {σ : L2.St} {H : Hp} (h : t σ H D.rt) : tRet t D σ H := h
theorem rd_next {D : Ends} {σ : L2.St} {H : Hp} (h : D.nx σ H) : tNext D σ H := h
def b1 (u : Bool) : Int := if u then 1 else 0
def aheadU (l : List Ask) (st : ArmS) (pool : List Nat) : List Nat := pool.filter fun n => decide (0 ≤ (trk l n - st.here) * (2 * b1 st.up - 1))
def aheadL (l : List Ask) (st : ArmS) (pool : List Nat) : List Nat := pool.filter fun n => decide (0 ≤ trk l n - st.here)
def farK (l : List Ask) (st : ArmS) (n : Nat) : Int := iabs (trk l n - st.here)
def sweptN (l : List Ask) (st : ArmS) (pool : List Nat) : Nat := pick (key3 l (farK l st)) (if aheadU l st pool = [] then pool else aheadU l st pool)
def sweptU (l : List Ask) (st : ArmS) (pool : List Nat) : Bool := if aheadU l st pool = [] then !st.up else st.up
def loopedN (l : List Ask) (st : ArmS) (pool : List Nat) : Nat := pick (key3 l (trk l)) (if aheadL l st pool = [] then pool else aheadL l st pool)
inductive Rule where
  | first | near | soon | sweep | loop
def ruleS : Rule → Str
  | .first => "first"
  | .near => "near"
  | .soon => "soon"
  | .sweep => "sweep"
  | .loop => "loop"
def soonK (d : Disk) (l : List Ask) (st : ArmS) (n : Nat) : Int := serve d st.now st.here (l.getD n (0, 0, 0))
def choseN (d : Disk) (l : List Ask) (st : ArmS) (pool : List Nat) : Rule → Nat
  | .first => pick (key3 l fun _ => 0) pool
  | .near => pick (key3 l (farK l st)) pool
  | .soon => pick (key3 l (soonK d l st)) pool
  | .sweep => sweptN l st pool
  | .loop => loopedN l st pool
def choseU (l : List Ask) (st : ArmS) (pool : List Nat) : Rule → Bool
  | .sweep => sweptU l st pool
  | _ => st.up
/-- those who have come -/
def arrived (l : List Ask) (now : Int) (left : List Nat) : List Nat := left.filter fun n => decide (come l n ≤ now)
def leastI : List Int → Int
  | [] => 0
  | x :: r => r.foldl (fun a y => if y < a then y else a) x
theorem leastI_go : ∀ (r : List Int) (x : Int), r.foldl (fun a y => if y < a then y else a) x ∈ x :: r ∧ ∀ n ∈ x :: r, r.foldl (fun a y => if y < a then y else a) x ≤ n
  | [], x => ⟨List.mem_cons_self, fun n hn => by
    rcases List.mem_cons.mp hn with rfl | hn
    · exact Int.le_refl _
    · cases hn⟩
  | y :: r, x => by
    rw [List.foldl_cons]
    obtain ⟨h1, h2⟩ := leastI_go r (if y < x then y else x)
    revert h1 h2
    generalize List.foldl (fun a y => if y < a then y else a) (if y < x then y else x) r = m
    intro h1 h2
    have h0 := h2 _ List.mem_cons_self
    refine ⟨?_, fun n hn => ?_⟩
    · rcases List.mem_cons.mp h1 with h | h
      · rw [h]
        split
        · exact List.mem_cons_of_mem _ List.mem_cons_self
        · exact List.mem_cons_self
      · exact List.mem_cons_of_mem _ (List.mem_cons_of_mem _ h)
    · rcases List.mem_cons.mp hn with rfl | hn
      · split at h0 <;> omega
      · rcases List.mem_cons.mp hn with rfl | hn
        · split at h0 <;> omega
        · exact h2 n (List.mem_cons_of_mem _ hn)
theorem leastI_is {l : List Int} {m : Int} (hm : m ∈ l) (h : ∀ n ∈ l, m ≤ n) : m = leastI l := by
  cases l with
  | nil => cases hm
  | cons x r =>
    obtain ⟨h1, h2⟩ := leastI_go r x
    have a := h _ h1
    have b := h2 _ hm
    show m = r.foldl _ x
    omega
def wakeNow (l : List Ask) (st : ArmS) : Int := if arrived l st.now st.left = [] then leastI (st.left.map (come l)) else st.now
def wake (l : List Ask) (st : ArmS) : ArmS := { st with now := wakeNow l st }
def waitN (l : List Ask) (st : ArmS) : List Nat := arrived l (wakeNow l st) st.left
/-- the next ask served, and the arm behind it -/
def nextN (d : Disk) (l : List Ask) (r : Rule) (st : ArmS) : Nat := choseN d l (wake l st) (waitN l st) r
def nextS (d : Disk) (l : List Ask) (r : Rule) (st : ArmS) : ArmS where
  now := serve d (wakeNow l st) st.here (l.getD (nextN d l r st) (0, 0, 0))
  here := trk l (nextN d l r st)
  up := choseU l (wake l st) (waitN l st) r
  left := st.left.erase (nextN d l r st)
/-- the arm behind so many steps, and the rows that it has served -/
def runS (d : Disk) (l : List Ask) (r : Rule) : Nat → ArmS → ArmS
  | 0, st => st
  | k + 1, st => nextS d l r (runS d l r k st)
def rowsS (d : Disk) (l : List Ask) (r : Rule) (st : ArmS) : Nat → List (Nat × Int)
  | 0 => []
  | k + 1 => rowsS d l r st k ++ [(nextN d l r (runS d l r k st), (nextS d l r (runS d l r k st)).now)]
def armS0 (d : Disk) (l : List Ask) : ArmS := ⟨0, d.he, true, List.range l.length⟩
def ruledR (d : Disk) (l : List Ask) (r : Rule) : List (Nat × Int) := rowsS d l r (armS0 d l) l.length
theorem filter_step {c : Nat → Bool} {pool : List Nat} {i n : Nat} (h : pool[i]? = some n) : (pool.take (i + 1)).filter c = (pool.take i).filter c ++ if c n = true then [n] else [] := by
  rw [take_more h, List.filter_append]
  cases hc : c n with
  | true => rw [List.filter_cons_of_pos hc]; simp
  | false => rw [List.filter_cons_of_neg (by rw [hc]; exact Bool.false_ne_true)]; simp
theorem nints_filter_len {c : Nat → Bool} {pool : List Nat} {i : Nat} : ((nints ((pool.take i).filter c)).map V.int).length ≤ pool.length := by
  rw [List.length_map, nints_len]
  exact Nat.le_trans (List.length_filter_le _ _) (by rw [List.length_take]; omega)
end Ag

set_option maxHeartbeats 8000000
namespace Ag
open PySem PySem.Spec PyProof.Rows L2 LamX NdefX
/-! ### lambdas without parameters, kept as values and called later -/
/-- at f stands this lambda -/
def LamO (f : Addr) (F : NF) (params : Arguments) (body : Expr) : HO := .ext fun h => ∃ pm ctv, h.get? f = some (lamO F params body pm ctv)
/-- a thing of which no more is said than the object that it is -/
def CelU : HO := .ext fun _ => True
theorem lamO_ne {f : Addr} {F : NF} {params : Arguments} {body : Expr} (ps : Array Value) : LamO f F params body ≠ .tbl ps := fun z => by
  unfold LamO at z
  cases z
theorem lamO_at {P : Program} {w : World} {H : Hp} {h : Heap} {f : Addr} {F : NF} {params : Arguments} {body : Expr} (hok : HOk P w H h) (e : H f = some (LamO f F params body)) : ∃ pm ctv, h.get? f = some (lamO F params body pm ctv) := by
  obtain ⟨z, _, _⟩ := hok f _ e
  exact z
section
variable {X : Cx} {pins : List (Addr × Obj)} {σ : L2.St} {H : Hp} {s : Shared}
theorem inv_lam {F : NF} {params : Arguments} {body : Expr} {t' : Nat} {pm ctv : Value} {o : Obj} (I : Inv X pins σ H s) (ho : o = lamO F params body pm ctv) :
    Inv X pins σ (upd H s.heap.objs.size (LamO s.heap.objs.size F params body)) { s with heap := s.heap.push o, toks := t' } := by
  subst ho
  refine I.laid (a := s.heap.objs.size) (fun b u e => Heap.get?_push_of_some _ e) (Nat.le_refl _) ?_
  have e : (s.heap.push (lamO F params body pm ctv)).get? s.heap.objs.size = some (lamO F params body pm ctv) := Heap.get?_push_size _ rfl
  exact ⟨⟨pm, ctv, e⟩, ⟨_, e⟩, fun h1 h2 ⟨p, t, z⟩ st => ⟨p, t, st _ z⟩⟩
/-- the lambda is made, and known from now on -/
theorem lam_make3 {T : List (Addr × Str)} {c P : Addr} {params : Arguments} {body : Expr} {scope : Scope} {pos : Pos} {E : Value → Shared → Prop} {Q : Value → Shared → Prop} (I : Inv X pins σ H s) (TB : TabB X.base X.mg c P) (hcode : X.env.code = .ref c)
    (hm : (P, X.env.qual ++ "<lambda>") ∈ T) (hu : ∀ p ∈ T, p.1 = P → p.2 = X.env.qual ++ "<lambda>") (hT : Tabs T H) (hdef : defaultsOf params X.env = ([], [])) (hfree : ∀ y ∈ scope.names, y.2 = .free → ∃ c, X.env.cells.lookup y.1 = some c)
    (h : ∀ (f c' : Addr) (H1 : Hp) (s' : Shared), Inv X pins σ H1 s' → ExtN H H1 → (∀ b, H1 b = none → H b = none) → Tabs T H1 → H f = none → H1 f = some (LamO f (lamF X params scope c') params body) → H1 c' = some (CodeO c' (X.env.qual ++ "<lambda>")) → Q (.ref f) s') :
    wpAny (model X.prog X.w) X.A (eval (.Lambda params body scope pos) X.env) Q E s := by
  obtain ⟨ps, hP, ht, ha⟩ := hT _ hm
  refine PySem.W.kla_eval hdef ?_
  have bP : s.heap.BuiltinsAt X.mg P := TB.bm.keeps I.bk
  have hP' : s.heap.get? P = some { cls := .none, data := .fields ps } := I.hok P _ hP
  cases hc : codeAmong pos ps.toList with
  | none =>
    refine PySem.W.kla_makeFunction (mg := X.mg) (c := c) (P := P) (ps := ps) (closure_ok hfree) I.ok.glob (I.mod.glob.keeps I.bk) hcode (TB.code.keeps I.bk) hP' ht hc TB.gP bP fun c' ctv h' tk hx hge hlt hrec htb => ?_
    obtain ⟨c2, oc, vs, t, e2, hoc, hd, hv⟩ := hrec
    cases e2
    have nC : H c' = none := I.hok.fresh hge
    have I1 := inv_table (t' := tk) (more := #[rawInt pos.line, rawInt pos.col, .ref c']) (h' := h') I hP (fun b o hb e => hx b o hb e) htb hge ⟨oc, vs, t, hoc, hd, hv⟩
    have hE : ExtN H (upd (upd H P (.tbl (ps ++ #[rawInt pos.line, rawInt pos.col, .ref c']))) c' (CodeO c' (X.env.qual ++ "<lambda>"))) := fun b o e n => by
      rw [upd_ne (ne_of_none e nC), upd_ne (fun z => n ps (Option.some.inj (e.symm.trans (by rw [z]; exact hP))))]
      exact e
    have eL : (ps ++ #[rawInt pos.line, rawInt pos.col, .ref c']).toList = ps.toList ++ [rawInt pos.line, rawInt pos.col, .ref c'] := by simp
    have T1 : Tabs T (upd (upd H P (.tbl (ps ++ #[rawInt pos.line, rawInt pos.col, .ref c']))) c' (CodeO c' (X.env.qual ++ "<lambda>"))) := fun p hp => by
      by_cases hb : p.1 = P
      · rw [hu p hp hb, hb]
        refine ⟨_, by rw [upd_ne (ne_of_none hP nC), upd_same], by rw [eL]; exact PySem.TriplesOk_snoc _ _ _ _ ht, fun p' cv hcv => ?_⟩
        rw [eL] at hcv
        rcases among_app _ ht hcv with z | z
        · obtain ⟨c0, e1, e2⟩ := ha p' cv z
          exact ⟨c0, e1, hE _ _ e2 codeO_ne⟩
        · exact ⟨c', z, upd_same⟩
      · obtain ⟨ps', a1, a2, a3⟩ := hT p hp
        refine ⟨ps', by rw [upd_ne (ne_of_none a1 nC), upd_ne hb]; exact a1, a2, fun p' cv hcv => ?_⟩
        obtain ⟨c0, e1, e2⟩ := a3 p' cv hcv
        exact ⟨c0, e1, hE _ _ e2 codeO_ne⟩
    have nF := I1.hok.fresh (Nat.le_refl _)
    have I2 := inv_lam (F := lamF X params scope c') (params := params) (body := body) (t' := tk) (pm := (X.mg "__name__").getD .none) (ctv := ctv) I1 rfl
    refine h h'.objs.size c' _ _ I2 (fun b o e n => ?_) (fun b e => upd_none (upd_none (upd_none e))) (T1.ext fun b o e => ?_) (I.hok.fresh (Nat.le_trans hge (Nat.le_of_lt hlt))) upd_same ?_
    · have e1 := hE b o e n
      exact (upd_ne (ne_of_none e1 nF)).trans e1
    · exact (upd_ne (ne_of_none e nF)).trans e
    · exact (upd_ne (Nat.ne_of_lt hlt)).trans upd_same
  | some cv =>
    obtain ⟨c', e, hco⟩ := ha pos cv hc
    subst e
    refine PySem.W.kla_makeFunctionHit (mg := X.mg) (c := c) (P := P) (ps := ps) (closure_ok hfree) I.ok.glob (I.mod.glob.keeps I.bk) hcode (TB.code.keeps I.bk) hP' ht hc bP fun ctv h' tk hx hsz => ?_
    have I1 : Inv X pins σ H { s with heap := h', toks := tk } := I.kept hx
    have nF : H h'.objs.size = none := I1.hok.fresh (Nat.le_refl _)
    have I2 := inv_lam (F := lamF X params scope c') (params := params) (body := body) (t' := tk) (pm := (X.mg "__name__").getD .none) (ctv := ctv) I1 rfl
    refine h h'.objs.size c' _ _ I2 (fun b o e n => ?_) (fun b e => upd_none e) (hT.ext fun b o e => ?_) nF upd_same ?_
    · exact (upd_ne (ne_of_none e nF)).trans e
    · exact (upd_ne (ne_of_none e nF)).trans e
    · exact (upd_ne (ne_of_none hco nF)).trans hco
end
/-- what the making of a lambda asks of the running code -/
structure LamD (X : Cx) (T : List (Addr × Str)) (c P : Addr) (params : Arguments) (scope : Scope) : Prop where
  tb : TabB X.base X.mg c P
  code : X.env.code = .ref c
  mem : (P, X.env.qual ++ "<lambda>") ∈ T
  one : ∀ p ∈ T, p.1 = P → p.2 = X.env.qual ++ "<lambda>"
  dfl : defaultsOf params X.env = ([], [])
  free : ∀ y ∈ scope.names, y.2 = .free → X.env.scope.names.lookup y.1 = some .cell ∨ X.env.scope.names.lookup y.1 = some .free
def tLamT (T : List (Addr × Str)) (mk : Addr → NF) (params : Arguments) (body : Expr) : TE := fun σ H Q => Tabs T H ∧ ∀ (f c' : Addr) (H1 : Hp), ExtN H H1 → (∀ b, H1 b = none → H b = none) → Tabs T H1 → H f = none → H1 f = some (LamO f (mk c') params body) → H1 c' = some (CodeO c' (mk c').qual) → Q (.ref f) H1
theorem pe_lamT {X : Cx} {T : List (Addr × Str)} {c P : Addr} {params : Arguments} {body : Expr} {scope : Scope} {pos : Pos} (L : LamD X T c P params scope) : PE X (.Lambda params body scope pos) (tLamT T (lamF X params scope) params body) := by
  refine ⟨fun pins s σ H Q I h => ?_⟩
  obtain ⟨hT, h⟩ := h
  have hfree : ∀ y ∈ scope.names, y.2 = .free → ∃ c, X.env.cells.lookup y.1 = some c := fun y hy e => (L.free y hy e).elim (fun z => I.ok.has _ (.inl z)) fun z => I.ok.has _ (.inr z)
  exact lam_make3 I L.tb L.code L.mem L.one hT L.dfl hfree fun f c' H1 s' I1 eN nn T1 f0 f1 c1 => ⟨.ref f, H1, I1, rfl, h f c' H1 eN nn T1 f0 f1 c1⟩
/-! ### the run of a lambda, with what it raises -/
section
variable {CX : CXT} {P : Program} {w : World} {K : PySem.W.Frag} {mg : Str → Option Value} {base : Heap} {A : Around} {outer : List Env} {s : Shared} {H : Hp} {N ps fr : List Str} {F : NF} {f : Addr} {params : Arguments} {body : Expr} {pm ctv : Value} {vs : List V} {us : List Value} {ws : List (Option V)} {k : Nat} {Q : VK} {E : XK} {t : TE}
theorem lam_runX (S : NScope N ps fr F.scope) (hr : Room (k + 1) A) (e0 : Env0 P w K mg base A outer s H) (hf : s.heap.get? f = some (lamO F params body pm ctv)) (hc : H F.c = some (CodeO F.c F.qual)) (C : CellsAt F.cl fr ws s.heap H)
    (r : Vals vs us) (hl : vs.length = ps.length) (hb : bindArgs (PySem.W.kla_fn "<lambda>" F.qual params body F.scope F.cl pm (.ref F.c) ctv) ⟨us, []⟩ = pure (ps.zip us))
    (hbody : Room k (A.deeper (envF F f s.heap.objs.size)) → PE (ncx CX P w K mg base N F f A outer s H E) body t) (q : t (startF N vs ws) H Q) : codeAny (model P w) A (.call (.ref f) ⟨us, []⟩) (CR CX outer P w H s Q E) s := by
  have lim : s.heap.NoLimit := e0.mod.nolimit.keeps fun b o e => (e0.bs b o e).1
  refine PySem.W.kla_callFunE hr.depth hf rfl S.co S.gen rfl (codeO_at e0.hok hc) ?_
  rw [hb]
  refine wpAny_pure (wpAny_newFunctionEnv S.nocell (fun ⟨n, _⟩ hy => S.par n (List.of_mem_zip hy).1) (fun h₁ hns hsb => ⟨lim.fresh _ hsb, ?_⟩) S.kind)
  have kp : ∀ b o, s.heap.get? b = some o → h₁.get? b = some o := fun b o e => hsb.extBut b o (Nat.ne_of_lt (Heap.lt_size e)) (Heap.get?_push_of_some _ e)
  have I : Inv (ncx CX P w K mg base N F f A outer s H E) [] (startF N vs ws) H { s with heap := h₁, toks := s.toks + (ps.zip us).length } := inv_startN S hr.hd e0 hl r C hns kp
  refine PySem.W.kla_codeExpr (wpAny_mono ((hbody (hr.deeper _)).run [] _ _ H Q I q) (fun v s' hq => ?_) fun e s' hq => hq)
  obtain ⟨w', H', J', rv, q⟩ := hq
  exact ⟨w', H', J'.os, J'.bare, J'.base, J'.hok, rv, q⟩
end
theorem cells_un {cl : List (Str × Addr)} {fr : List Str} {ws : List (Option V)} {h h' : Heap} {H H' : Hp} {fs : List Addr} (C : CellsAt cl fr ws h H) (u : Un fs [] H H' h h') : CellsAt cl fr ws h' H' := by
  have kp : ∀ {c : Addr} {v : Option Value}, H c = none → h.IsCell c v → h'.IsCell c v := fun {c v} n ⟨o, ho, hd⟩ => by
    obtain ⟨sl, q⟩ := u.any ho n (by simp)
    exact ⟨_, q, hd⟩
  refine ⟨C.len, fun y c e => ?_, C.inj, fun i y e => ?_⟩
  · obtain ⟨n, v, z⟩ := C.all y c e
    refine ⟨?_, v, kp n z⟩
    obtain ⟨o, ho, _⟩ := z
    exact u.free c o ho n (by simp)
  · obtain ⟨c, hc, hv⟩ := C.has i y e
    exact ⟨c, hc, fun v ev => let ⟨x, r, z⟩ := hv v ev; ⟨x, r, kp (C.all y c hc).1 z⟩⟩
/-! ### cells that are known: of a def that was left -/
structure ThkH (H : Hp) (cl : List (Str × Addr)) (fr : List Str) (ws : List (Option V)) : Prop where
  len : ws.length = fr.length
  all : ∀ y c, cl.lookup y = some c → ∃ o v, H c = some (.frz o CelU) ∧ o.data = .cell v
  inj : ∀ x y c, cl.lookup x = some c → cl.lookup y = some c → x = y
  has : ∀ (i : Nat) (y : Str), fr[i]? = some y → ∃ c, cl.lookup y = some c ∧ ∀ v, ws[i]? = some (some v) → ∃ u o, L2.RelV v u ∧ H c = some (.frz o CelU) ∧ o.data = .cell (some u)
theorem ThkH.ext {H H' : Hp} {cl : List (Str × Addr)} {fr : List Str} {ws : List (Option V)} (T : ThkH H cl fr ws) (e : ExtN H H') : ThkH H' cl fr ws := by
  have kp : ∀ {c : Addr} {o : Obj}, H c = some (.frz o CelU) → H' c = some (.frz o CelU) := fun h => e _ _ h fun ps z => by cases z
  exact ⟨T.len, fun y c h => let ⟨o, v, h1, h2⟩ := T.all y c h; ⟨o, v, kp h1, h2⟩, T.inj, fun i y h => let ⟨c, hc, hv⟩ := T.has i y h; ⟨c, hc, fun v ev => let ⟨u, o, r, h1, h2⟩ := hv v ev; ⟨u, o, r, kp h1, h2⟩⟩⟩
open Classical in
noncomputable def cutC (cl : List (Str × Addr)) (H : Hp) : Hp := fun b => if ∃ y, cl.lookup y = some b then none else H b
open Classical in
noncomputable def putC (cl : List (Str × Addr)) (H H' : Hp) : Hp := fun b => if ∃ y, cl.lookup y = some b then H b else H' b
theorem cutC_in {cl : List (Str × Addr)} {H : Hp} {b : Addr} (h : ∃ y, cl.lookup y = some b) : cutC cl H b = none := by unfold cutC; rw [if_pos h]
theorem cutC_out {cl : List (Str × Addr)} {H : Hp} {b : Addr} (h : ¬ ∃ y, cl.lookup y = some b) : cutC cl H b = H b := by unfold cutC; rw [if_neg h]
theorem putC_in {cl : List (Str × Addr)} {H H' : Hp} {b : Addr} (h : ∃ y, cl.lookup y = some b) : putC cl H H' b = H b := by unfold putC; rw [if_pos h]
theorem putC_out {cl : List (Str × Addr)} {H H' : Hp} {b : Addr} (h : ¬ ∃ y, cl.lookup y = some b) : putC cl H H' b = H' b := by unfold putC; rw [if_neg h]
theorem cutC_none {cl : List (Str × Addr)} {H : Hp} {b : Addr} (h : H b = none) : cutC cl H b = none := by
  by_cases z : ∃ y, cl.lookup y = some b
  · exact cutC_in z
  · rw [cutC_out z, h]
section
variable {P : Program} {w : World} {K : PySem.W.Frag} {mg : Str → Option Value} {base : Heap} {A : Around} {outer : List Env} {s : Shared} {H : Hp} {cl : List (Str × Addr)} {fr : List Str} {ws : List (Option V)}
theorem ThkH.frz (T : ThkH H cl fr ws) {b : Addr} (h : ∃ y, cl.lookup y = some b) : ∃ o v, H b = some (.frz o CelU) ∧ o.data = .cell v := let ⟨y, e⟩ := h; T.all y b e
theorem ThkH.out (T : ThkH H cl fr ws) {b : Addr} {u : HO} (h : H b = some u) (n : ∀ o, u ≠ .frz o CelU) : ¬ ∃ y, cl.lookup y = some b := fun z => by
  obtain ⟨o, v, e, _⟩ := T.frz z
  rw [h] at e
  exact n o (Option.some.inj e)
theorem ThkH.out0 (T : ThkH H cl fr ws) {b : Addr} (h : H b = none) : ¬ ∃ y, cl.lookup y = some b := fun z => by
  obtain ⟨o, v, e, _⟩ := T.frz z
  rw [h] at e
  cases e
theorem frz_at {h : Heap} {b : Addr} {o : Obj} (hok : HOk P w H h) (e : H b = some (.frz o CelU)) : h.get? b = some o := (hok b _ e).1
theorem ThkH.cells (T : ThkH H cl fr ws) {h : Heap} (hok : HOk P w H h) : CellsAt cl fr ws h (cutC cl H) := by
  refine ⟨T.len, fun y c e => ?_, T.inj, fun i y e => ?_⟩
  · obtain ⟨o, v, h1, h2⟩ := T.all y c e
    exact ⟨cutC_in ⟨y, e⟩, v, o, frz_at hok h1, h2⟩
  · obtain ⟨c, hc, hv⟩ := T.has i y e
    exact ⟨c, hc, fun v ev => let ⟨u, o, r, h1, h2⟩ := hv v ev; ⟨u, r, o, frz_at hok h1, h2⟩⟩
theorem ThkH.cut (T : ThkH H cl fr ws) (e0 : Env0 P w K mg base A outer s H) : Env0 P w K mg base A outer s (cutC cl H) := by
  refine ⟨e0.frames, e0.mod, fun b o e => ⟨(e0.bs b o e).1, cutC_none (e0.bs b o e).2⟩, e0.bsz, e0.funs, fun b hb => cutC_none (e0.frf b hb), fun b u e => ?_, e0.bare⟩
  by_cases z : ∃ y, cl.lookup y = some b
  · rw [cutC_in z] at e
    cases e
  · rw [cutC_out z] at e
    exact (e0.hok b u e).stay (fun _ _ _ q => q) (fun c q => by rw [cutC_out (T.out q fun o z => by cases z)]; exact q) fun c xs q => by rw [cutC_out (T.out q fun o z => by cases z)]; exact q
theorem celU_ok {H' : Hp} {h : Heap} {b : Addr} {o : Obj} (e : h.get? b = some o) : ObjOk P w H' h b (.frz o CelU) := ⟨e, trivial, ⟨o, e⟩, fun _ _ _ _ => trivial⟩
/-- the cells are put back: the heap that is held -/
theorem ThkH.put_ok (T : ThkH H cl fr ws) {H' : Hp} {B : Heap} (hok : HOk P w H' B) (hn : ∀ b, (∃ y, cl.lookup y = some b) → H' b = none) (hB : ∀ b o, (∃ y, cl.lookup y = some b) → H b = some (.frz o CelU) → B.get? b = some o) : HOk P w (putC cl H H') B := fun b u e => by
  by_cases z : ∃ y, cl.lookup y = some b
  · rw [putC_in z] at e
    obtain ⟨o, v, h1, h2⟩ := T.frz z
    rw [h1] at e
    cases e
    exact celU_ok (hB b o z h1)
  · rw [putC_out z] at e
    have no : ∀ c q, H' c = some q → ¬ ∃ y, cl.lookup y = some c := fun c q e z => by
      rw [hn c z] at e
      cases e
    exact (hok b u e).stay (fun _ _ _ q => q) (fun c q => by rw [putC_out (no c _ q)]; exact q) fun c xs q => by rw [putC_out (no c _ q)]; exact q
theorem ThkH.ce (T : ThkH H cl fr ws) (e0 : Env0 P w K mg base A outer s H) {Q : VK} {u : Value} {s' : Shared} (h : CE outer P w (cutC cl H) s (fun v H' => (∀ b, (∃ y, cl.lookup y = some b) → H' b = none) → Q v (putC cl H H')) u s') : CE outer P w H s Q u s' := by
  obtain ⟨v, H', os, bare, un, hok, rv, q⟩ := h
  have nfr : ∀ b, (∃ y, cl.lookup y = some b) → b ∉ frs outer := fun b z hm => T.out0 (e0.frf b hm) z
  have here : ∀ b, (∃ y, cl.lookup y = some b) → ∃ o, H b = some (.frz o CelU) ∧ s.heap.get? b = some o := fun b z => by
    obtain ⟨o, _, h1, _⟩ := T.frz z
    exact ⟨o, h1, frz_at e0.hok h1⟩
  have hn : ∀ b, (∃ y, cl.lookup y = some b) → H' b = none := fun b z => by
    obtain ⟨o, h1, h2⟩ := here b z
    exact un.free b o h2 (cutC_in z) (by simp)
  refine ⟨v, putC cl H H', os, bare, ⟨fun b o e n hb hx => un.keep b o e (cutC_none n) hb hx, fun b o e n hb hx => un.slot b o e (cutC_none n) hb hx, fun b o e n hx => ?_, un.there, fun b xs e => ?_, fun b o x e => ?_, fun b ps e => ?_⟩, T.put_ok hok hn (fun b o z e => ?_), rv, q hn⟩
  · rw [putC_out (T.out0 n)]
    exact un.free b o e (cutC_none n) hx
  · have z := T.out e fun o z => by cases z
    rw [putC_out z]
    exact un.tups b xs (by rw [cutC_out z]; exact e)
  · by_cases z : ∃ y, cl.lookup y = some b
    · rw [putC_in z]
      exact e
    · rw [putC_out z]
      exact un.frzs b o x (by rw [cutC_out z]; exact e)
  · have z := T.out e fun o z => by cases z
    rw [putC_out z]
    exact un.tbls b ps (by rw [cutC_out z]; exact e)
  · obtain ⟨o', h1, h2⟩ := here b z
    rw [e] at h1
    cases h1
    exact un.keep b o h2 (cutC_in z) (nfr b z) (by simp)
theorem ThkH.cx (T : ThkH H cl fr ws) (e0 : Env0 P w K mg base A outer s H) {E : XK} {u : Value} {s' : Shared} (h : L2.CX P w outer (cutC cl H) s (fun cls d H' => (∀ b, (∃ y, cl.lookup y = some b) → H' b = none) → E cls d (putC cl H H')) u s') : L2.CX P w outer H s E u s' := by
  obtain ⟨a, B, H', cls, d, eu, fl, hok, un, na, os, bare, q⟩ := h
  have nfr : ∀ b, (∃ y, cl.lookup y = some b) → b ∉ frs outer := fun b z hm => T.out0 (e0.frf b hm) z
  have here : ∀ b, (∃ y, cl.lookup y = some b) → ∃ o, H b = some (.frz o CelU) ∧ s.heap.get? b = some o := fun b z => by
    obtain ⟨o, _, h1, _⟩ := T.frz z
    exact ⟨o, h1, frz_at e0.hok h1⟩
  have inB : ∀ b o, (∃ y, cl.lookup y = some b) → H b = some (.frz o CelU) → B.get? b = some o := fun b o z e => by
    obtain ⟨o', h1, h2⟩ := here b z
    rw [e] at h1
    cases h1
    exact un.keep b o h2 (cutC_in z) (nfr b z)
  have hn : ∀ b, (∃ y, cl.lookup y = some b) → H' b = none := fun b z => by
    obtain ⟨o, h1, h2⟩ := here b z
    exact un.free b o h2 (cutC_in z)
  refine ⟨a, B, putC cl H H', cls, d, eu, fl, T.put_ok hok hn inB, ⟨fun b o e n hb => un.keep b o e (cutC_none n) hb, un.slot, fun b o e n => ?_, un.there, fun b xs e => ?_, fun b o x e => ?_, fun b ps e => ?_⟩, ?_, os, bare, q hn⟩
  · rw [putC_out (T.out0 n)]
    exact un.free b o e (cutC_none n)
  · have z := T.out e fun o z => by cases z
    rw [putC_out z]
    exact un.tups b xs (by rw [cutC_out z]; exact e)
  · by_cases z : ∃ y, cl.lookup y = some b
    · rw [putC_in z]
      exact e
    · rw [putC_out z]
      exact un.frzs b o x (by rw [cutC_out z]; exact e)
  · have z := T.out e fun o z => by cases z
    rw [putC_out z]
    exact un.tbls b ps (by rw [cutC_out z]; exact e)
  · rw [putC_out (fun z => ?_)]
    · exact na
    · obtain ⟨o, h1, _⟩ := here a z
      have h3 := inB a o z h1
      rw [fl.2.1] at h3
      cases h3
end
/-! ### a thing that can be called without arguments, at the heap as it is -/
/-- at every state with this heap that the running code comes to from here -/
def RunsAt (X : Cx) (k : Nat) (σ : L2.St) (H : Hp) (f : Addr) (Qt : VK) (Et : XK) : Prop := ∀ (pins : List (Addr × Obj)) (s : Shared), Inv X pins σ H s → ∀ (A : Around) (outer : List Env) (s' : Shared), Room k A → Un (frs X.stack) [] H H s.heap s'.heap →
  Env0 X.prog X.w X.K X.mg X.base A outer s' H → codeAny (model X.prog X.w) A (.call (.ref f) ⟨[], []⟩) (CR (L2.CX X.prog X.w) outer X.prog X.w H s' Qt Et) s'
section
variable {X : Cx} {σ : L2.St} {H : Hp} {N fr : List Str} {F : NF} {f : Addr} {params : Arguments} {body : Expr} {js : List Nat} {ws : List (Option V)} {k : Nat} {Qt : VK} {Et : XK}
/-- .. a lambda over the running code's own cells -/
theorem runsAt_own (hf : H f = some (LamO f F params body)) (hc : H F.c = some (CodeO F.c F.qual)) (cp : X.Ok → Caps X F.cl fr js) (S : NScope N [] fr F.scope)
    (hb : ∀ pm ctv, bindArgs (PySem.W.kla_fn "<lambda>" F.qual params body F.scope F.cl pm (.ref F.c) ctv) ⟨[], []⟩ = pure [])
    (hbody : ∀ (A : Around) (outer : List Env) (s : Shared), Room k (A.deeper (envF F f s.heap.objs.size)) → ∃ t, PE (ncx (L2.CX X.prog X.w) X.prog X.w X.K X.mg X.base N F f A outer s H Et) body t ∧ t (startF N [] (js.map (slotAt σ))) H Qt) : RunsAt X (k + 1) σ H f Qt Et := by
  intro pins s I A outer s' hr un e0
  obtain ⟨pm, ctv, hfs⟩ := lamO_at e0.hok hf
  have C := cells_un (cells_of I (cp I.ok)) un
  by_cases hr' : Room k (A.deeper (envF F f s'.heap.objs.size))
  · obtain ⟨t, ht, hq⟩ := hbody A outer s' hr'
    exact lam_runX S hr e0 hfs hc C (vs := []) (us := []) .nil rfl (hb pm ctv) (fun _ => ht) hq
  · exact absurd (hr.deeper _) hr'
/-- .. a lambda over known cells -/
theorem runsAt_thk (hf : H f = some (LamO f F params body)) (hc : H F.c = some (CodeO F.c F.qual)) (T : ThkH H F.cl fr ws) (S : NScope N [] fr F.scope)
    (hb : ∀ pm ctv, bindArgs (PySem.W.kla_fn "<lambda>" F.qual params body F.scope F.cl pm (.ref F.c) ctv) ⟨[], []⟩ = pure [])
    (hbody : ∀ (A : Around) (outer : List Env) (s : Shared), Room k (A.deeper (envF F f s.heap.objs.size)) → ∃ t, PE (ncx (L2.CX X.prog X.w) X.prog X.w X.K X.mg X.base N F f A outer s (cutC F.cl H) (fun cls d H' => (∀ b, (∃ y, F.cl.lookup y = some b) → H' b = none) → Et cls d (putC F.cl H H'))) body t ∧
      t (startF N [] ws) (cutC F.cl H) (fun v H' => (∀ b, (∃ y, F.cl.lookup y = some b) → H' b = none) → Qt v (putC F.cl H H'))) : RunsAt X (k + 1) σ H f Qt Et := by
  intro pins s I A outer s' hr un e0
  obtain ⟨pm, ctv, hfs⟩ := lamO_at e0.hok hf
  have C := T.cells e0.hok
  have e1 := T.cut e0
  have hc1 : cutC F.cl H F.c = some (CodeO F.c F.qual) := by
    rw [cutC_out (T.out hc fun o z => by unfold CodeO at z; cases z)]
    exact hc
  by_cases hr' : Room k (A.deeper (envF F f s'.heap.objs.size))
  · obtain ⟨t, ht, hq⟩ := hbody A outer s' hr'
    refine codeAny_mono (lam_runX S hr e1 hfs hc1 C (vs := []) (us := []) .nil rfl (hb pm ctv) (fun _ => ht) hq) fun r s2 h => ?_
    cases r with
    | error e => exact T.cx e0 h
    | ok fl =>
      cases fl with
      | ret u => exact T.ce e0 h
      | next => exact False.elim h
      | brk => exact False.elim h
      | cont => exact False.elim h
  · exact absurd (hr.deeper _) hr'
end
/-- x(), x a name that holds such a thing, in a body that takes what it raises -/
theorem pe_thunk {X : Cx} {i : Nat} {a : Str} {p1 p2 : Pos} {f : Addr} {F : NF} {params : Arguments} {body : Expr} {H0 : Hp} {Qt : VK} {Et : XK} {W : WX} (hf : H0 f = some (LamO f F params body))
    (hrun : ∀ (pins : List (Addr × Obj)) (σ : L2.St) (s : Shared), Inv X pins σ H0 s → codeAny (model X.prog X.w) X.A (.call (.ref f) ⟨[], []⟩) (CR (L2.CX X.prog X.w) X.stack X.prog X.w H0 s Qt Et) s) (tk : Takes X W) (hN : X.N[i]? = some a) (hv : Vis X.env.scope a)
    (hd : (a == ("__debug__" : Str)) = false := by decide) (hcd : (a == ("__classdict__" : Str)) = false := by decide) :
    PE X (.Call (.Name a p1) [] [] p2) (fun σ H Q => σ[i]? = some (some (.ref f)) ∧ H = H0 ∧ (∀ v H', Qt v H' → Q v H') ∧ ∀ cls d H', Et cls d H' → W cls d σ H') := by
  refine ⟨fun pins s σ H Q I h => ?_⟩
  obtain ⟨hs, rfl, hQ, hE⟩ := h
  refine wpAny_Call_Name_kw (thn ((pe_var (pos := p1) (i := i) hN hv hd hcd).run pins s σ H (fun v H1 => v = .ref f ∧ H1 = H) I ⟨.ref f, hs, rfl, rfl⟩) fun u s1 ⟨v, H1, I1, r1, q1⟩ => ?_)
  obtain ⟨ev, eH⟩ := q1
  subst ev
  rw [eH] at I1
  obtain rfl : u = Value.ref f := r1
  obtain ⟨pm, ctv, hfs⟩ := lamO_at I1.hok hf
  refine PySem.W.callWith_F0 ⟨_, _, _, _, hfs⟩ ?_
  show wpAny _ _ (call (.ref f) []) _ _ _
  refine wpAny_call (codeAny_mono (hrun pins σ s1 I1) fun r s' hq => ?_)
  cases r with
  | error e =>
    obtain ⟨a', B, H', cls, d, e1, e2, e3, e4, e5, e6, e7, q⟩ := hq
    exact passAt tk σ pins H s1 e s' I1 ⟨a', B, H', cls, d, e1, e2, e3, e4, e5, e6, e7, hE _ _ _ q⟩
  | ok fl =>
    cases fl with
    | ret u =>
      obtain ⟨v, H', J, rv, q⟩ := I1.after hq
      exact ⟨v, H', J, rv, hQ _ _ q⟩
    | next => exact False.elim hq
    | brk => exact False.elim hq
    | cont => exact False.elim hq
/-! ### a def whose cells outlive it -/
/-- the cells of the frame that is left, known from now on -/
structure CelPut (cells : List (Str × Addr)) (N : List Str) (sc : Scope) (σ : L2.St) (H H' : Hp) : Prop where
  out : ∀ b, (¬ ∃ y, cells.lookup y = some b) → H' b = H b
  free : ∀ y c, cells.lookup y = some c → H c = none
  all : ∀ y c, cells.lookup y = some c → ∃ o v, H' c = some (.frz o CelU) ∧ o.data = .cell v
  inj : ∀ x y c, cells.lookup x = some c → cells.lookup y = some c → x = y
  val : ∀ (j : Nat) (y : Str), N[j]? = some y → sc.names.lookup y = some .cell → ∃ c, cells.lookup y = some c ∧ ∀ v, σ[j]? = some (some v) → ∃ u o, L2.RelV v u ∧ H' c = some (.frz o CelU) ∧ o.data = .cell (some u)
/-- a body that ends with a return: what stands in the slots then is told -/
structure PKr (X : Cx) (sts : List Stmt) (t : (V → L2.St → Hp → Prop) → L2.St → Hp → Prop) : Prop where
  run : ∀ (pins : List (Addr × Obj)) (s : Shared) (σ : L2.St) (H : Hp) (R : V → L2.St → Hp → Prop), Inv X pins σ H s → t R σ H → wpAny (model X.prog X.w) X.A (execs sts X.env) (fun fl s' => ∃ u v σ' H', fl = .ret u ∧ Inv X pins σ' H' s' ∧ L2.RelV v u ∧ R v σ' H') X.xe s
theorem pkr_cons {X : Cx} {st : Stmt} {rest : List Stmt} {t : TS} {u : (V → L2.St → Hp → Prop) → L2.St → Hp → Prop} (h1 : PS X st t) (h2 : PKr X rest u) : PKr X (st :: rest) (fun R σ H => t { nx := fun σ' H' => u R σ' H', rt := fun _ _ => False } σ H) := by
  refine ⟨fun pins s σ H R I h => ?_⟩
  refine wpAny_execs_cons (thn (h1.run pins s σ H _ I h) fun f s1 q => ?_)
  cases f with
  | next =>
    obtain ⟨σ', H', I', q⟩ := q
    exact h2.run pins s1 σ' H' R I' q
  | ret v =>
    obtain ⟨_, _, _, _, _, q⟩ := q
    exact q.elim
  | brk =>
    obtain ⟨_, _, _, q⟩ := q
    exact False.elim q
  | cont =>
    obtain ⟨_, _, _, q⟩ := q
    exact False.elim q
theorem pkr_ret {X : Cx} {e : Expr} {te : TE} {pos : Pos} (he : PE X e te) : PKr X [.Return (some e) pos] (fun R σ H => te σ H fun v H' => R v σ H') := by
  refine ⟨fun pins s σ H R I h => ?_⟩
  refine wpAny_execs_cons (wpAny_Return_some (thn (he.run pins s σ H _ I h) fun v s1 ⟨x, H1, I1, r1, q1⟩ => ?_))
  exact ⟨v, x, σ, H1, rfl, I1, r1, q1⟩
theorem cel_put {CX : CXT} {P : Program} {w : World} {K : PySem.W.Frag} {mg : Str → Option Value} {base : Heap} {f : Addr} {qual : Str} {scope : Scope} {cdv : Value} {N : List Str} {A : Around} {outer : List Env} {s s' : Shared} {H H' : Hp} {E : XK} {σ : L2.St}
    (J : Inv (cxOf CX P w K mg base N qual scope f cdv A outer s H E) [] σ H' s') : ∃ H3, CelPut (envOfC qual scope s.heap.objs.size f cdv).cells N scope σ H' H3 ∧ Un (frs outer) [] H H3 s.heap s'.heap ∧ HOk P w H3 s'.heap := by
  classical
  let cells := (envOfC qual scope s.heap.objs.size f cdv).cells
  let H3 : Hp := fun b => if ∃ y, cells.lookup y = some b then (s'.heap.get? b).map fun o => .frz o CelU else H' b
  have h3i : ∀ b, (∃ y, cells.lookup y = some b) → H3 b = (s'.heap.get? b).map fun o => .frz o CelU := fun b z => if_pos z
  have h3o : ∀ b, (¬ ∃ y, cells.lookup y = some b) → H3 b = H' b := fun b z => if_neg z
  have fc : ∀ y c, cells.lookup y = some c → H' c = none := fun y c e => J.freeC y c e
  have no : ∀ b u, H' b = some u → ¬ ∃ y, cells.lookup y = some b := fun b u e ⟨y, z⟩ => by
    rw [fc y b z] at e
    cases e
  have ab : ∀ y c, cells.lookup y = some c → s.heap.objs.size ≤ c := fun y c e => J.ok.cab y c rfl e
  have nold : ∀ b o, s.heap.get? b = some o → ¬ ∃ y, cells.lookup y = some b := fun b o e ⟨y, z⟩ => absurd (Nat.lt_of_lt_of_le (Heap.lt_size e) (ab y b z)) (Nat.lt_irrefl _)
  have cellat : ∀ y c, cells.lookup y = some c → ∃ o v, s'.heap.get? c = some o ∧ H3 c = some (.frz o CelU) ∧ o.data = .cell v := fun y c e => by
    obtain ⟨v, o, ho, hd⟩ := J.cell y c e
    exact ⟨o, v, ho, by rw [h3i c ⟨y, e⟩, ho]; rfl, hd⟩
  refine ⟨H3, ⟨h3o, fc, fun y c e => ?_, J.ok.inj, fun j y hj hy => ?_⟩, ⟨fun b o e n hb hx => J.base.keep b o e n hb hx, fun b o e n hb hx => J.base.slot b o e n hb hx, fun b o e n hx => ?_, fun b o e hx => J.base.there b o e hx, fun b xs e => ?_, fun b o x e => ?_, fun b ps e => ?_⟩, fun b u e => ?_⟩
  · obtain ⟨o, v, _, h1, h2⟩ := cellat y c e
    exact ⟨o, v, h1, h2⟩
  · obtain ⟨c, hc⟩ := J.ok.has y (.inl hy)
    refine ⟨c, hc, fun v hv => ?_⟩
    obtain ⟨m, hn, hl⟩ := J.loc
    obtain ⟨u, r, l⟩ := hl j y v hj hv (.inr (.inl hy))
    rcases l with ⟨z, _⟩ | ⟨_, c', hc', o, ho, hd⟩
    · have z' : scope.names.lookup y = some .local := z
      rw [hy] at z'
      cases z'
    · rw [hc] at hc'
      cases hc'
      exact ⟨u, o, r, by rw [h3i c ⟨y, hc⟩, ho]; rfl, hd⟩
  · rw [h3o b (nold b o e)]
    exact J.base.free b o e n hx
  · have h1 := J.base.tups b xs e
    rw [h3o b (no b _ h1)]
    exact h1
  · have h1 := J.base.frzs b o x e
    rw [h3o b (no b _ h1)]
    exact h1
  · obtain ⟨more, h1⟩ := J.base.tbls b ps e
    exact ⟨more, by rw [h3o b (no b _ h1)]; exact h1⟩
  · by_cases z : ∃ y, cells.lookup y = some b
    · obtain ⟨y, z⟩ := z
      obtain ⟨o, v, ho, h1, _⟩ := cellat y b z
      rw [h1] at e
      cases e
      exact celU_ok ho
    · rw [h3o b z] at e
      exact (J.hok b u e).stay (fun _ _ _ q => q) (fun c q => by rw [h3o c (no c _ q)]; exact q) fun c xs q => by rw [h3o c (no c _ q)]; exact q
/-- THE RULE for such a def -/
theorem fn_ofC {CX : CXT} {P : Program} {w : World} {K : PySem.W.Frag} {mg : Str → Option Value} {base : Heap} {k : Nat} {f : Addr} {name qual : Str} {params : Arguments} {body : List Stmt} {scope : Scope} {dV kV doc pm cdv ct oc : Value} {an od : Option Addr}
    {osl : Array (Option Value)} {N ps : List Str} {sp : Sp} (lk : K.lookup f = some ⟨oc, od, .func (PySem.W.fnOf name qual params body scope dV kV doc pm an cdv ct), osl⟩) (hcd : PySem.W.codeIn K cdv qual = true) (S : FnScope N ps scope)
    (len : ∀ vs H Q E, sp vs H Q E → vs.length = ps.length)
    (hbody : ∀ (A : Around) (outer : List Env) (s : Shared) (H : Hp) (vs : List V) (Q : VK) (E : XK), Room k (A.deeper (envOfC qual scope s.heap.objs.size f cdv)) → sp vs H Q E →
      ∃ t, PKr (cxOf CX P w K mg base N qual scope f cdv A outer s H E) body t ∧ t (fun v σ H' => ∀ H3, CelPut (envOfC qual scope s.heap.objs.size f cdv).cells N scope σ H' H3 → Q v H3) (start N vs) H) :
    FnOk P w K mg base CX (k + 1) f (PySem.W.fnOf name qual params body scope dV kV doc pm an cdv ct) ps sp := by
  refine ⟨len, fun A outer s H args us vs Q E hr e0 hb r hsp => ?_⟩
  have hl := len _ _ _ _ hsp
  have KX : K.In s.heap := e0.mod.kin.keeps fun b o e => (e0.bs b o e).1
  have lim : s.heap.NoLimit := e0.mod.nolimit.keeps fun b o e => (e0.bs b o e).1
  have hkind : ∀ y ∈ ps.zip us, scope.names.lookup y.1 = some .local ∨ (scope.names.lookup y.1 = some .cell ∧ ((cellsFrom (s.heap.objs.size + 1) scope.names []).lookup y.1).isSome = true) := fun ⟨n, v⟩ hy => by
    rcases S.par n (List.of_mem_zip hy).1 with q | q
    · exact .inl q
    · exact .inr ⟨q, PySem.W.cellsFrom_some _ _ _ (.inl q)⟩
  refine codeAny_call_function hr.depth (KX _ _ lk) rfl S.co S.gen rfl (PySem.W.codeRec_of KX hcd) (hb _ _ _ _ ?_)
  refine wpAny_newFunctionEnv_cells S.kind hkind fun env he s1 x => ?_
  subst he
  refine ⟨lim.keeps x.toInCall.keep, codeAny_func ?_⟩
  obtain ⟨t, ht, hq⟩ := hbody A outer s H vs Q E (hr.deeper _) hsp
  have I : Inv (cxOf CX P w K mg base N qual scope f cdv A outer s H E) [] (start N vs) H s1 := inv_start S hr.hd e0 hl r x
  refine wpAny_mono (ht.run [] s1 (start N vs) H _ I hq) (fun fl s' hs => ?_) fun e s' hs => hs
  obtain ⟨u, v, σ', H', rfl, J, rv, q⟩ := hs
  obtain ⟨H3, cp, un, hok⟩ := cel_put J
  exact ⟨v, H3, J.os, J.bare, un, hok, rv, q H3 cp⟩
end Ag

namespace Ag
open PySem PySem.Spec PyProof.Rows L2
/-! ### the text -/
def top (i : Nat) : Stmt := PySem.Challenge.pw_armorder_k01_disks_and_asks_refused.main.body.getD i (.Pass ⟨0, 0, 0, 0⟩)
theorem ifd_t {p : Prop} [Decidable p] {A B : Prop} (h : p) (a : A) : if decide p = true then A else B := by
  rw [decide_eq_true h]
  exact iteT a
theorem ifd_f {p : Prop} [Decidable p] {A B : Prop} (h : ¬ p) (b : B) : if decide p = true then A else B := by
  rw [decide_eq_false h]
  exact iteF b
theorem ifnd_t {p : Prop} [Decidable p] {A B : Prop} (h : p) (b : B) : if (!decide p) = true then A else B := by
  rw [decide_eq_true h]
  exact iteF b
theorem ifnd_f {p : Prop} [Decidable p] {A B : Prop} (h : ¬ p) (a : A) : if (!decide p) = true then A else B := by
  rw [decide_eq_false h]
  exact iteT a
theorem if2d {p : Prop} [Decidable p] {A B : Prop} (h1 : p → A) (h2 : ¬ p → B) : if decide p = true then A else B := by
  by_cases h : p
  · exact ifd_t h (h1 h)
  · exact ifd_f h (h2 h)
theorem rel_int {i : Int} {t : Tok} : RelV (.int i) (.int i t) := ⟨_, rfl⟩
/-- a def that is called: its name, that it stays, how its arguments bind -/
structure Cal (K : PySem.W.Frag) (mg : Str → Option Value) (x : Str) (f : Addr) (fd : FuncData) (ps : List Str) : Prop where
  m : mg x = some (.ref f)
  k : PySem.W.keepIn K (.ref f) = true
  b : Binds K fd ps []
/-! ### own errors -/
theorem if2nd {p : Prop} [Decidable p] {A B : Prop} (h1 : p → B) (h2 : ¬ p → A) : if (!decide p) = true then A else B := by
  by_cases h : p
  · exact ifnd_t h (h1 h)
  · exact ifnd_f h (h2 h)
def clsB : Stmt → List Stmt
  | .ClassDef (body := b) .. => b
  | _ => []
def cmth (i j : Nat) : Stmt := (clsB (top i)).getD j (.Pass ⟨0, 0, 0, 0⟩)
/-- an error class with a field f, its __init__ at fI -/
structure ErrC (K : PySem.W.Frag) (mg : Str → Option Value) (x f : Str) (C fI : Addr) : Prop where
  m : mg x = some (.ref C)
  T : OexC K C
  iC : PySem.W.findIn K (.ref C) "__init__" = some (some (.ref fI))
  tI : PySem.W.typeIn K (.ref fI) = some (.type "function")
  no : PySem.W.findIn K (.ref C) f = some none
abbrev s_badask : Stmt := cmth 3 0
abbrev s_badtext : Stmt := cmth 7 0
theorem sc_badask : FnScope ["self", "number"] ["self", "number"] (defScope s_badask) := ⟨rfl, rfl, rfl, by decide +kernel, rfl, by decide +kernel, by decide +kernel⟩
theorem sc_badtext : FnScope ["self", "row"] ["self", "row"] (defScope s_badtext) := ⟨rfl, rfl, rfl, by decide +kernel, rfl, by decide +kernel, by decide +kernel⟩
section
variable {P : Program} {w : World} {K : PySem.W.Frag} {mg : Str → Option Value} {base : Heap}
theorem ok_badask {f CA C : Addr} {fd : FuncData} (F : Fun K "__init__" "BadAsk.__init__" s_badask f fd) (TA : CInit K CA) (gA : mg "ArmError" = some (.ref CA)) (T : OexC K C) (no : PySem.W.findIn K (.ref C) "number" = some none) :
    FnOk P w K mg base CX0 1 f fd ["self", "number"] (sp_xinit "number" C K) := by
  refine F.ok sc_badask (fun vs H Q E h => ?_) (fun cdv A outer s H vs Q E hr h => ?_)
  · obtain ⟨a, y, rfl, _⟩ := h
    rfl
  · obtain ⟨a, y, rfl, ea, q⟩ := h
    refine ⟨_, pss_cons (ps_expr (pe_cinit TA (by rfl) gA (pa_cons (pv 0) (pa_cons (pv 1) pa_nil)))) (pss_one (ps_ost (pv 0) (pv 1))), ?_⟩
    refine ⟨_, rfl, _, rfl, a, C, [y], rfl, (by show 1 ≤ 1000; decide), T, ea, ?_⟩
    exact ⟨_, rfl, _, rfl, a, C, rfl, T, no, .inl ⟨ea, fun d hd hda => q d hd hda⟩⟩
theorem ok_badtext {f CA C : Addr} {fd : FuncData} (F : Fun K "__init__" "BadText.__init__" s_badtext f fd) (TA : CInit K CA) (gA : mg "ArmError" = some (.ref CA)) (T : OexC K C) (no : PySem.W.findIn K (.ref C) "row" = some none) :
    FnOk P w K mg base CX0 1 f fd ["self", "row"] (sp_xinit "row" C K) := by
  refine F.ok sc_badtext (fun vs H Q E h => ?_) (fun cdv A outer s H vs Q E hr h => ?_)
  · obtain ⟨a, y, rfl, _⟩ := h
    rfl
  · obtain ⟨a, y, rfl, ea, q⟩ := h
    refine ⟨_, pss_cons (ps_expr (pe_cinit TA (by rfl) gA (pa_cons (pv 0) (pa_cons (pv 1) pa_nil)))) (pss_one (ps_ost (pv 0) (pv 1))), ?_⟩
    refine ⟨_, rfl, _, rfl, a, C, [y], rfl, (by show 1 ≤ 1000; decide), T, ea, ?_⟩
    exact ⟨_, rfl, _, rfl, a, C, rfl, T, no, .inl ⟨ea, fun d hd hda => q d hd hda⟩⟩
end
abbrev s_baddisk : Stmt := cmth 2 0
theorem sc_baddisk : FnScope ["self", "word"] ["self", "word"] (defScope s_baddisk) := ⟨rfl, rfl, rfl, by decide +kernel, rfl, by decide +kernel, by decide +kernel⟩
section
variable {P : Program} {w : World} {K : PySem.W.Frag} {mg : Str → Option Value} {base : Heap}
theorem ok_baddisk {f CA C : Addr} {fd : FuncData} (F : Fun K "__init__" "BadDisk.__init__" s_baddisk f fd) (TA : CInit K CA) (gA : mg "ArmError" = some (.ref CA)) (T : OexC K C) (no : PySem.W.findIn K (.ref C) "word" = some none) :
    FnOk P w K mg base CX0 1 f fd ["self", "word"] (sp_xinit "word" C K) := by
  refine F.ok sc_baddisk (fun vs H Q E h => ?_) (fun cdv A outer s H vs Q E hr h => ?_)
  · obtain ⟨a, y, rfl, _⟩ := h
    rfl
  · obtain ⟨a, y, rfl, ea, q⟩ := h
    refine ⟨_, pss_cons (ps_expr (pe_cinit TA (by rfl) gA (pa_cons (pv 0) (pa_cons (pv 1) pa_nil)))) (pss_one (ps_ost (pv 0) (pv 1))), ?_⟩
    refine ⟨_, rfl, _, rfl, a, C, [y], rfl, (by show 1 ≤ 1000; decide), T, ea, ?_⟩
    exact ⟨_, rfl, _, rfl, a, C, rfl, T, no, .inl ⟨ea, fun d hd hda => q d hd hda⟩⟩
end
end Ag

namespace Ag
open PySem PySem.Spec PyProof.Rows L2
/-! ### need_asks, which may refuse -/
abbrev s_need_asks : Stmt := top 15
/-- the ask at this place may stand -/
def Fits (d : Disk) (i : Nat) (k : Ask) : Prop := i < 40 ∧ GoodAsk d k
def sp_need_asksX (CB : Addr) (K : PySem.W.Frag) : Sp := fun vs H Q E => ∃ (v u : V) (d : Disk) (l : List Ask), vs = [v, u] ∧ Dp K H v (dDisk d) ∧ Dp K H u (dAsks l) ∧ l.length ≤ 16000000 ∧
  ((∀ i k, l[i]? = some k → Fits d i k) → Q .non H) ∧
  ∀ (i : Nat) (k : Ask), l[i]? = some k → (∀ j kj, j < i → l[j]? = some kj → Fits d j kj) → ¬ Fits d i k → ∀ e, H e = none → E (.ref CB) (some e) (upd H e (.xd [("number", .int (i : Int))]))
theorem sc_need_asks : FnScope ["disk", "asks", "number", "good", "come", "track", "sector"] ["disk", "asks"] (defScope s_need_asks) := ⟨rfl, rfl, rfl, by decide +kernel, rfl, by decide +kernel, by decide +kernel⟩
section
variable {P : Program} {w : World} {K : PySem.W.Frag} {mg : Str → Option Value} {base : Heap}
theorem ok_need_asksX {f CB fB : Addr} {fd fdB : FuncData} (F : Fun K "need_asks" "need_asks" s_need_asks f fd) (EB : ErrC K mg "BadAsk" "number" CB fB) (GB : FnOk P w K mg base CX0 1 fB fdB ["self", "number"] (sp_xinit "number" CB K)) (bB : Binds K fdB ["self", "number"] [])
    (mb_range : mg "range" = none) (mb_len : mg "len" = none) {t1 t2 : Tok} (mc_MOST_ASKS : mg "MOST_ASKS" = some (.int 40 t1)) (mc_MOST_COME : mg "MOST_COME" = some (.int 999 t2)) :
    FnOk P w K mg base (L2.CX P w) 3 f fd ["disk", "asks"] (sp_need_asksX CB K) := by
  refine F.okX sc_need_asks (fun vs H Q E h => ?_) (fun cdv A outer s H vs Q E hr h => ?_)
  · obtain ⟨v, u, d, l, rfl, _⟩ := h
    rfl
  · obtain ⟨v, u, d, l, rfl, hd, ha, hlen, q, qe⟩ := h
    obtain ⟨a, rfl, hT⟩ := dp_disk hd
    obtain ⟨b, xs, rfl, hL, hxl, hat⟩ := dp_asks ha
    have nd := sc_need_asks.nd
    have hr1 : Room (1 + 1) _ := hr
    refine ⟨_, (pss_one (ps_for (passes_of rfl) rfl (pi_range1 rfl mb_range (pa_cons (pe_callB call_len_seq (by rfl) mb_len PySem.boot_len (pa_cons (pv 1) pa_nil)) pa_nil)) (pg_name (i := 2) nd rfl (.inl rfl))
        (pss_cons (ps_asg (pe_ix (r := rIxL K) ix_list (pv 1) (pv 2) (fun _ _ => rfl)) (pg_tup rfl (pgs_cons (pg_name (i := 4) nd rfl (.inl rfl)) (pgs_cons (pg_name (i := 5) nd rfl (.inl rfl)) (pgs_cons (pg_name (i := 6) nd rfl (.inl rfl)) pgs_nil)))))
      (pss_cons (ps_set (i := 3) nd rfl (.inl rfl) (pe_and (pe_cmpR op_lt (pv 2) (pe_glob rfl mc_MOST_ASKS rel_int) (nomark _)) (pe_one (pe_chain op_le op_le pe_int (pv 4) (pe_glob rfl mc_MOST_COME rel_int)))))
      (pss_one (ps_if (PW.pt (pw_or (pt_not (pt_val (pv 3))) (pw_or (pt_not (pt_chain op_le op_lt pe_int (pv 5) (pe_ix (r := rIxT K) ix_tup (pv 0) pe_int (fun _ _ => rfl)))) (pw_or1 (pt_not (pt_chain op_le op_lt pe_int (pv 6) (pe_ix (r := rIxT K) ix_tup (pv 0) pe_int (fun _ _ => rfl)))))))) (pss_one (ps_raiseI (K := K) (takes_of rfl rfl rfl rfl) EB.T EB.iC EB.tI GB hr1 bB (by rfl) EB.m (pa_cons (pv 2) pa_nil))) pss_nil)))))), ?_⟩
    refine ⟨_, rfl, b, xs, rfl, .inl hL, _, rfl, by omega, by omega, ?_⟩
    refine for_range (lo := 0) (n := xs.length) (fun i σ H' => H' = H ∧ (∀ j kj, j < i → l[j]? = some kj → Fits d j kj) ∧ ∃ v2 v3 v4 v5 v6, σ = [some (.ref a), some (.ref b), v2, v3, v4, v5, v6]) ⟨rfl, fun j kj hj => absurd hj (Nat.not_lt_zero _), none, none, none, none, none, rfl⟩ ?_ ?_
    · rintro i σ H' hi ⟨rfl, hbef, v2, v3, v4, v5, v6, rfl⟩
      obtain ⟨k, hk⟩ : ∃ k, l[i]? = some k := ⟨_, List.getElem?_eq_getElem (by omega)⟩
      obtain ⟨p, hp, hpT, _⟩ := hat i k hk
      have bad : ¬ Fits d i k → ∀ e, H' e = none → E (.ref CB) (some e) (upd H' e (.xd [("number", .int (0 + (i : Int)))])) := fun hn e he => by
        rw [Int.zero_add]
        exact qe i k hk hbef hn e he
      have next : Fits d i k → ∀ j kj, j < i + 1 → l[j]? = some kj → Fits d j kj := fun hf j kj hj hkj => by
        rcases Nat.lt_succ_iff_lt_or_eq.mp hj with h | rfl
        · exact hbef j kj h hkj
        · rw [hk] at hkj
          cases hkj
          exact hf
      refine ⟨_, rfl, _, rfl, b, xs, (i : Int), .ref p, rfl, by rw [Int.zero_add], hL, atI_nat hp, ?_⟩
      refine ⟨p, _, rfl, hpT, rfl, _, _, rfl, _, _, rfl, _, _, rfl, rfl, ?_⟩
      refine ⟨_, rfl, _, _, rfl, rfl, _, rfl, if2d (fun h1 => ?_) (fun h1 => ?_)⟩
      · refine ⟨_, rfl, _, _, rfl, rfl, _, rfl, if2d (fun h2 => ⟨_, _, rfl, rfl, ?_⟩) (fun h2 => ?_)⟩
        · refine ⟨_, rfl, _, rfl, if2nd (fun h3 => ?_) (fun h3 => ?_)⟩
          · refine ⟨_, rfl, _, _, rfl, rfl, _, rfl, if2d (fun h4 => ⟨_, rfl, a, _, 0, _, rfl, rfl, hT, atI_nat (j := 0) rfl, _, _, rfl, rfl, _, rfl, if2nd (fun h5 => ?_) (fun h5 => ?_)⟩) (fun h4 => ?_)⟩
            · refine ⟨_, rfl, _, _, rfl, rfl, _, rfl, if2d (fun h6 => ⟨_, rfl, a, _, 1, _, rfl, rfl, hT, atI_nat (j := 1) rfl, _, _, rfl, rfl, _, rfl, if2nd (fun h7 => ?_) (fun h7 => ?_)⟩) (fun h6 => ?_)⟩
              · exact ⟨rfl, next ⟨by omega, h2, h3, h4, h5, h6, h7⟩, _, _, _, _, _, rfl⟩
              · exact ⟨_, rfl, mk_read fun e he => bad (fun z => h7 z.2.s2) e he⟩
              · exact ⟨_, rfl, iteT ⟨_, rfl, mk_read fun e he => bad (fun z => h6 z.2.s1) e he⟩⟩
            · exact iteT ⟨_, rfl, mk_read fun e he => bad (fun z => h5 z.2.t2) e he⟩
            · exact ⟨_, rfl, iteT (iteT ⟨_, rfl, mk_read fun e he => bad (fun z => h4 z.2.t1) e he⟩)⟩
          · exact iteT ⟨_, rfl, mk_read fun e he => bad (fun z => h3 z.2.c2) e he⟩
        · exact ⟨_, rfl, _, rfl, iteT (iteT ⟨_, rfl, mk_read fun e he => bad (fun z => h2 z.2.c1) e he⟩)⟩
      · exact ⟨_, rfl, _, rfl, iteT (iteT ⟨_, rfl, mk_read fun e he => bad (fun z => h1 (by have := z.1; omega)) e he⟩)⟩
    · rintro σ H' ⟨rfl, hall, _⟩
      exact q fun i k hk => hall i k (by have := (List.getElem?_eq_some_iff.mp hk).1; omega) hk
end
end Ag

namespace Ag
open PySem PySem.Spec PyProof.Rows L2
/-! ### need_disk, which may refuse -/
abbrev s_need_disk : Stmt := top 14
open Classical in
/-- the first word of what is wrong -/
noncomputable def whyD (d : Disk) : Option Str := if ¬ (1 ≤ d.tr ∧ d.tr ≤ 64) then some "tracks" else if ¬ (1 ≤ d.sc ∧ d.sc ≤ 16) then some "sectors" else if ¬ (1 ≤ d.pa ∧ d.pa ≤ 4) then some "pace" else if ¬ (0 ≤ d.he ∧ d.he < d.tr) then some "here" else none
def sp_need_diskX (CD : Addr) (K : PySem.W.Frag) : Sp := fun vs H Q E => ∃ (v : V) (d : Disk), vs = [v] ∧ Dp K H v (dDisk d) ∧ (GoodDisk d → Q .non H) ∧ ∀ y, whyD d = some y → ∀ e, H e = none → E (.ref CD) (some e) (upd H e (.xd [("word", .str y)]))
theorem sc_need_disk : FnScope ["disk", "tracks", "sectors", "pace", "here"] ["disk"] (defScope s_need_disk) := ⟨rfl, rfl, rfl, by decide +kernel, rfl, by decide +kernel, by decide +kernel⟩
section
variable {P : Program} {w : World} {K : PySem.W.Frag} {mg : Str → Option Value} {base : Heap}
theorem ok_need_diskX {f CD fD : Addr} {fd fdD : FuncData} (F : Fun K "need_disk" "need_disk" s_need_disk f fd) (ED : ErrC K mg "BadDisk" "word" CD fD) (GD : FnOk P w K mg base CX0 1 fD fdD ["self", "word"] (sp_xinit "word" CD K)) (bD : Binds K fdD ["self", "word"] [])
    {t1 t2 t3 : Tok} (mc_MOST_TRACKS : mg "MOST_TRACKS" = some (.int 64 t1)) (mc_MOST_SECTORS : mg "MOST_SECTORS" = some (.int 16 t2)) (mc_MOST_PACE : mg "MOST_PACE" = some (.int 4 t3)) :
    FnOk P w K mg base (L2.CX P w) 3 f fd ["disk"] (sp_need_diskX CD K) := by
  refine F.okX sc_need_disk (fun vs H Q E h => ?_) (fun cdv A outer s H vs Q E hr h => ?_)
  · obtain ⟨v, d, rfl, _⟩ := h
    rfl
  · obtain ⟨v, d, rfl, hd, q, qe⟩ := h
    obtain ⟨a, rfl, hT⟩ := dp_disk hd
    have nd := sc_need_disk.nd
    have hr1 : Room (1 + 1) _ := hr
    refine ⟨_, (pss_cons (ps_asg (pv 0) (pg_tup rfl (pgs_cons (pg_name (i := 1) nd rfl (.inl rfl)) (pgs_cons (pg_name (i := 2) nd rfl (.inl rfl)) (pgs_cons (pg_name (i := 3) nd rfl (.inl rfl)) (pgs_cons (pg_name (i := 4) nd rfl (.inl rfl)) pgs_nil))))))
      (pss_cons (ps_if (pt_not (pt_chain op_le op_le pe_int (pv 1) (pe_glob rfl mc_MOST_TRACKS rel_int))) (pss_one (ps_raiseI (K := K) (takes_of rfl rfl rfl rfl) ED.T ED.iC ED.tI GD hr1 bD (by rfl) ED.m (pa_cons pe_str pa_nil))) pss_nil)
      (pss_cons (ps_if (pt_not (pt_chain op_le op_le pe_int (pv 2) (pe_glob rfl mc_MOST_SECTORS rel_int))) (pss_one (ps_raiseI (K := K) (takes_of rfl rfl rfl rfl) ED.T ED.iC ED.tI GD hr1 bD (by rfl) ED.m (pa_cons pe_str pa_nil))) pss_nil)
      (pss_cons (ps_if (pt_not (pt_chain op_le op_le pe_int (pv 3) (pe_glob rfl mc_MOST_PACE rel_int))) (pss_one (ps_raiseI (K := K) (takes_of rfl rfl rfl rfl) ED.T ED.iC ED.tI GD hr1 bD (by rfl) ED.m (pa_cons pe_str pa_nil))) pss_nil)
      (pss_one (ps_if (pt_not (pt_chain op_le op_lt pe_int (pv 4) (pv 1))) (pss_one (ps_raiseI (K := K) (takes_of rfl rfl rfl rfl) ED.T ED.iC ED.tI GD hr1 bD (by rfl) ED.m (pa_cons pe_str pa_nil))) pss_nil)))))), ?_⟩
    refine ⟨_, rfl, a, _, rfl, hT, rfl, _, _, rfl, _, _, rfl, _, _, rfl, _, _, rfl, rfl, ?_⟩
    have b1 : ¬ (1 ≤ d.tr ∧ d.tr ≤ 64) → ∀ e, H e = none → E (.ref CD) (some e) (upd H e (.xd [("word", .str "tracks")])) := fun h e he => qe _ (by unfold whyD; rw [if_pos h]) e he
    refine ⟨_, rfl, _, _, rfl, rfl, _, rfl, if2d (fun h1 => ⟨_, _, rfl, rfl, _, rfl, if2nd (fun h2 => ?_) (fun h2 => (mk_read (b1 fun z => h2 z.2)))⟩) (fun h1 => ⟨_, rfl, iteT (mk_read (b1 fun z => h1 z.1))⟩)⟩
    have k1 : 1 ≤ d.tr ∧ d.tr ≤ 64 := ⟨h1, h2⟩
    have b2 : ¬ (1 ≤ d.sc ∧ d.sc ≤ 16) → ∀ e, H e = none → E (.ref CD) (some e) (upd H e (.xd [("word", .str "sectors")])) := fun h e he => qe _ (by unfold whyD; rw [if_neg (not_not_intro k1), if_pos h]) e he
    refine ⟨_, rfl, _, _, rfl, rfl, _, rfl, if2d (fun h3 => ⟨_, _, rfl, rfl, _, rfl, if2nd (fun h4 => ?_) (fun h4 => (mk_read (b2 fun z => h4 z.2)))⟩) (fun h3 => ⟨_, rfl, iteT (mk_read (b2 fun z => h3 z.1))⟩)⟩
    have k2 : 1 ≤ d.sc ∧ d.sc ≤ 16 := ⟨h3, h4⟩
    have b3 : ¬ (1 ≤ d.pa ∧ d.pa ≤ 4) → ∀ e, H e = none → E (.ref CD) (some e) (upd H e (.xd [("word", .str "pace")])) := fun h e he => qe _ (by unfold whyD; rw [if_neg (not_not_intro k1), if_neg (not_not_intro k2), if_pos h]) e he
    refine ⟨_, rfl, _, _, rfl, rfl, _, rfl, if2d (fun h5 => ⟨_, _, rfl, rfl, _, rfl, if2nd (fun h6 => ?_) (fun h6 => (mk_read (b3 fun z => h6 z.2)))⟩) (fun h5 => ⟨_, rfl, iteT (mk_read (b3 fun z => h5 z.1))⟩)⟩
    have k3 : 1 ≤ d.pa ∧ d.pa ≤ 4 := ⟨h5, h6⟩
    have b4 : ¬ (0 ≤ d.he ∧ d.he < d.tr) → ∀ e, H e = none → E (.ref CD) (some e) (upd H e (.xd [("word", .str "here")])) := fun h e he => qe _ (by unfold whyD; rw [if_neg (not_not_intro k1), if_neg (not_not_intro k2), if_neg (not_not_intro k3), if_pos h]) e he
    refine ⟨_, rfl, _, _, rfl, rfl, _, rfl, if2d (fun h7 => ⟨_, rfl, _, _, rfl, rfl, _, rfl, if2nd (fun h8 => ?_) (fun h8 => (mk_read (b4 fun z => h8 z.2)))⟩) (fun h7 => ⟨_, rfl, iteT (mk_read (b4 fun z => h7 z.1))⟩)⟩
    exact q ⟨h1, h2, h3, h4, h5, h6, h7, h8⟩
end
end Ag

namespace Ag
open PySem PySem.Spec PyProof.Rows L2
/-! ### need_few, which may refuse -/
abbrev s_need_few : Stmt := top 30
def sp_need_fewX (CM : Addr) (K : PySem.W.Frag) : Sp := fun vs H Q E => ∃ (u : V) (l : List Ask), vs = [u] ∧ Dp K H u (dAsks l) ∧ (l.length ≤ 6 → Q .non H) ∧ (6 < l.length → E (.ref CM) none H)
theorem sc_need_few : FnScope ["asks"] ["asks"] (defScope s_need_few) := ⟨rfl, rfl, rfl, by decide +kernel, rfl, by decide +kernel, by decide +kernel⟩
section
variable {P : Program} {w : World} {K : PySem.W.Frag} {mg : Str → Option Value} {base : Heap}
theorem ok_need_fewX {f CM : Addr} {fd : FuncData} (F : Fun K "need_few" "need_few" s_need_few f fd) (OM : OwnC K mg "TooMany" CM) (mb_len : mg "len" = none) {t1 : Tok} (mc_MOST_OF_ALL : mg "MOST_OF_ALL" = some (.int 6 t1)) : FnOk P w K mg base (L2.CX P w) 3 f fd ["asks"] (sp_need_fewX CM K) := by
  refine F.okX sc_need_few (fun vs H Q E h => ?_) (fun cdv A outer s H vs Q E hr h => ?_)
  · obtain ⟨u, l, rfl, _⟩ := h
    rfl
  · obtain ⟨u, l, rfl, ha, q, qe⟩ := h
    obtain ⟨b, xs, rfl, hL, hxl, hat⟩ := dp_asks ha
    refine ⟨_, (pss_one (ps_if (pt_cmpR op_gt (pe_callB call_len_seq (by rfl) mb_len PySem.boot_len (pa_cons (pv 0) pa_nil)) (pe_glob rfl mc_MOST_OF_ALL rel_int) (nomark _)) (pss_one (ps_raiseO (takes_of rfl rfl rfl rfl) OM (by rfl))) pss_nil)), ?_⟩
    exact ⟨_, rfl, b, xs, rfl, .inl hL, _, _, rfl, rfl, _, rfl, if2d (fun h => qe (by omega)) (fun h => q (by omega))⟩
end
end Ag

namespace Ag
open PySem PySem.Spec PyProof.Rows L2
/-! ### the two first checks -/
/-- a statement that is never come to -/
theorem ps_dead {X : Cx} {st : Stmt} : PS X st (fun _ _ _ => False) := ⟨fun _ _ _ _ _ _ h => h.elim⟩
/-- what the two first checks come to -/
def Refu (d : Disk) (l : List Ask) (CD CB : Addr) (H : Hp) (E : XK) (rest : Prop) : Prop :=
  (∀ y, whyD d = some y → ∀ e, H e = none → E (.ref CD) (some e) (upd H e (.xd [("word", .str y)]))) ∧
  (GoodDisk d → ∀ (i : Nat) (k : Ask), l[i]? = some k → (∀ j kj, j < i → l[j]? = some kj → Fits d j kj) → ¬ Fits d i k → ∀ e, H e = none → E (.ref CB) (some e) (upd H e (.xd [("number", .int (i : Int))]))) ∧
  (GoodDisk d → (∀ i k, l[i]? = some k → Fits d i k) → rest)
/-! ### least_sum, where it refuses -/
abbrev s_least_sum : Stmt := top 34
def sp_least_sumX (CD CB CM : Addr) (K : PySem.W.Frag) : Sp := fun vs H Q E => ∃ (v u : V) (d : Disk) (l : List Ask), vs = [v, u] ∧ Dp K H v (dDisk d) ∧ Dp K H u (dAsks l) ∧ l.length ≤ 16000000 ∧ Refu d l CD CB H E (6 < l.length ∧ E (.ref CM) none H)
theorem sc_least_sum : FnScope ["disk", "asks", "level", "turn", "longer", "now", "here", "number", "waits", "order", "one", "done", "more"] ["disk", "asks"] (defScope s_least_sum) := ⟨rfl, rfl, rfl, by decide +kernel, rfl, by decide +kernel, by decide +kernel⟩
section
variable {P : Program} {w : World} {K : PySem.W.Frag} {mg : Str → Option Value} {base : Heap}
theorem ok_least_sumX {f f1 f2 f3 CD CB CM : Addr} {fd fd1 fd2 fd3 : FuncData} (F : Fun K "least_sum" "least_sum" s_least_sum f fd)
    (G_need_disk : FnOk P w K mg base (L2.CX P w) 3 f1 fd1 ["disk"] (sp_need_diskX CD K)) (C_need_disk : Cal K mg "need_disk" f1 fd1 ["disk"])
    (G_need_asks : FnOk P w K mg base (L2.CX P w) 3 f2 fd2 ["disk", "asks"] (sp_need_asksX CB K)) (C_need_asks : Cal K mg "need_asks" f2 fd2 ["disk", "asks"])
    (G_need_few : FnOk P w K mg base (L2.CX P w) 3 f3 fd3 ["asks"] (sp_need_fewX CM K)) (C_need_few : Cal K mg "need_few" f3 fd3 ["asks"]) :
    FnOk P w K mg base (L2.CX P w) 5 f fd ["disk", "asks"] (sp_least_sumX CD CB CM K) := by
  refine F.okX sc_least_sum (fun vs H Q E h => ?_) (fun cdv A outer s H vs Q E hr h => ?_)
  · obtain ⟨v, u, d, l, rfl, _⟩ := h
    rfl
  · obtain ⟨v, u, d, l, rfl, hd, ha, hl, r1, r2, r3⟩ := h
    have nd := sc_least_sum.nd
    have hr_need_disk : Room 3 _ := hr.mono (by decide)
    have hr_need_asks : Room 3 _ := hr.mono (by decide)
    have hr_need_few : Room 3 _ := hr.mono (by decide)
    refine ⟨_, (pss_cons (ps_expr (pe_callS G_need_disk hr_need_disk (by rfl) C_need_disk.m C_need_disk.k C_need_disk.b (fun σ => passAt (takes_of rfl rfl rfl rfl) σ) (pa_cons (pv 0) pa_nil)))
      (pss_cons (ps_expr (pe_callS G_need_asks hr_need_asks (by rfl) C_need_asks.m C_need_asks.k C_need_asks.b (fun σ => passAt (takes_of rfl rfl rfl rfl) σ) (pa_cons (pv 0) (pa_cons (pv 1) pa_nil))))
      (pss_cons (ps_expr (pe_callS G_need_few hr_need_few (by rfl) C_need_few.m C_need_few.k C_need_few.b (fun σ => passAt (takes_of rfl rfl rfl rfl) σ) (pa_cons (pv 1) pa_nil)))
      (pss_cons ps_dead
      (pss_cons ps_dead
      (pss_one ps_dead)))))), ?_⟩
    refine ⟨_, rfl, v, d, rfl, hd, fun gd => ?_, r1⟩
    refine ⟨_, rfl, _, rfl, v, u, d, l, rfl, hd, ha, hl, fun hf => ?_, r2 gd⟩
    obtain ⟨h6, qe⟩ := r3 gd hf
    exact ⟨_, rfl, u, l, rfl, ha, fun h => absurd h6 (by omega), fun _ => qe⟩
end
end Ag

namespace Ag
open PySem PySem.Spec PyProof.Rows L2
/-! ### front, where it refuses -/
abbrev s_front : Stmt := top 33
def sp_frontX (CD CB CM : Addr) (K : PySem.W.Frag) : Sp := fun vs H Q E => ∃ (v u : V) (d : Disk) (l : List Ask), vs = [v, u] ∧ Dp K H v (dDisk d) ∧ Dp K H u (dAsks l) ∧ l.length ≤ 16000000 ∧ Refu d l CD CB H E (6 < l.length ∧ E (.ref CM) none H)
theorem sc_front : FnScope ["disk", "asks", "known", "found", "cost"] ["disk", "asks"] (defScope s_front) := ⟨rfl, rfl, rfl, by decide +kernel, rfl, by decide +kernel, by decide +kernel⟩
section
variable {P : Program} {w : World} {K : PySem.W.Frag} {mg : Str → Option Value} {base : Heap}
theorem ok_frontX {f f1 f2 f3 CD CB CM : Addr} {fd fd1 fd2 fd3 : FuncData} (F : Fun K "front" "front" s_front f fd)
    (G_need_disk : FnOk P w K mg base (L2.CX P w) 3 f1 fd1 ["disk"] (sp_need_diskX CD K)) (C_need_disk : Cal K mg "need_disk" f1 fd1 ["disk"])
    (G_need_asks : FnOk P w K mg base (L2.CX P w) 3 f2 fd2 ["disk", "asks"] (sp_need_asksX CB K)) (C_need_asks : Cal K mg "need_asks" f2 fd2 ["disk", "asks"])
    (G_need_few : FnOk P w K mg base (L2.CX P w) 3 f3 fd3 ["asks"] (sp_need_fewX CM K)) (C_need_few : Cal K mg "need_few" f3 fd3 ["asks"]) :
    FnOk P w K mg base (L2.CX P w) 5 f fd ["disk", "asks"] (sp_frontX CD CB CM K) := by
  refine F.okX sc_front (fun vs H Q E h => ?_) (fun cdv A outer s H vs Q E hr h => ?_)
  · obtain ⟨v, u, d, l, rfl, _⟩ := h
    rfl
  · obtain ⟨v, u, d, l, rfl, hd, ha, hl, r1, r2, r3⟩ := h
    have nd := sc_front.nd
    have hr_need_disk : Room 3 _ := hr.mono (by decide)
    have hr_need_asks : Room 3 _ := hr.mono (by decide)
    have hr_need_few : Room 3 _ := hr.mono (by decide)
    refine ⟨_, (pss_cons (ps_expr (pe_callS G_need_disk hr_need_disk (by rfl) C_need_disk.m C_need_disk.k C_need_disk.b (fun σ => passAt (takes_of rfl rfl rfl rfl) σ) (pa_cons (pv 0) pa_nil)))
      (pss_cons (ps_expr (pe_callS G_need_asks hr_need_asks (by rfl) C_need_asks.m C_need_asks.k C_need_asks.b (fun σ => passAt (takes_of rfl rfl rfl rfl) σ) (pa_cons (pv 0) (pa_cons (pv 1) pa_nil))))
      (pss_cons (ps_expr (pe_callS G_need_few hr_need_few (by rfl) C_need_few.m C_need_few.k C_need_few.b (fun σ => passAt (takes_of rfl rfl rfl rfl) σ) (pa_cons (pv 1) pa_nil)))
      (pss_cons ps_dead
      (pss_cons ps_dead
      (pss_cons ps_dead
      (pss_one ps_dead))))))), ?_⟩
    refine ⟨_, rfl, v, d, rfl, hd, fun gd => ?_, r1⟩
    refine ⟨_, rfl, _, rfl, v, u, d, l, rfl, hd, ha, hl, fun hf => ?_, r2 gd⟩
    obtain ⟨h6, qe⟩ := r3 gd hf
    exact ⟨_, rfl, u, l, rfl, ha, fun h => absurd h6 (by omega), fun _ => qe⟩
end
end Ag

namespace Ag
open PySem PySem.Spec PyProof.Rows L2
def RLS : List Rule := [.first, .near, .soon, .sweep, .loop]
def rulesV : List V := RLS.map fun r => V.str (ruleS r)
/-! ### need_rule and need_order, where they refuse -/
abbrev s_need_rule : Stmt := top 24
def sp_need_ruleX (CR : Addr) (K : PySem.W.Frag) : Sp := fun vs H Q E => ∃ x : Str, vs = [.str x] ∧ inV (.str x) rulesV = false ∧ E (.ref CR) none H
theorem sc_need_rule : FnScope ["rule"] ["rule"] (defScope s_need_rule) := ⟨rfl, rfl, rfl, by decide +kernel, rfl, by decide +kernel, by decide +kernel⟩
section
variable {P : Program} {w : World} {K : PySem.W.Frag} {mg : Str → Option Value} {base : Heap}
theorem ok_need_ruleX {f aR CR : Addr} {fd : FuncData} (F : Fun K "need_rule" "need_rule" s_need_rule f fd) (OR : OwnC K mg "BadRule" CR) (mc_RULES : mg "RULES" = some (.ref aR)) (hR : ∀ H, SqT K H aR rulesV) : FnOk P w K mg base (L2.CX P w) 3 f fd ["rule"] (sp_need_ruleX CR K) := by
  refine F.okX sc_need_rule (fun vs H Q E h => ?_) (fun cdv A outer s H vs Q E hr h => ?_)
  · obtain ⟨r, rfl, _⟩ := h
    rfl
  · obtain ⟨x, rfl, hx, qe⟩ := h
    have nd := sc_need_rule.nd
    refine ⟨_, (pss_one (ps_if (pt_cmpR (r := rIn K true) op_notIn_seq (pv 0) (pe_glob (v := .ref aR) rfl mc_RULES rfl) (by rfl)) (pss_one (ps_raiseO (takes_of rfl rfl rfl rfl) OR (by rfl))) pss_nil)), ?_⟩
    refine ⟨_, rfl, aR, rulesV, rfl, .inr (hR H), rfl, by decide +kernel, _, rfl, ?_⟩
    rw [hx]
    exact iteT qe
end
abbrev s_need_order : Stmt := top 20
def sp_need_orderX (CO : Addr) (K : PySem.W.Frag) : Sp := fun vs H Q E => ∃ (u o : V) (l : List Ask) (ns : List Int), vs = [u, o] ∧ Dp K H u (dAsks l) ∧ Dp K H o (.list (ns.map PyData.int)) ∧ l.length ≤ 1000 ∧ ¬ ns.Perm (nints (List.range l.length)) ∧ ∀ H' : Hp, Same H H' → E (.ref CO) none H'
theorem sc_need_order : FnScope ["asks", "order"] ["asks", "order"] (defScope s_need_order) := ⟨rfl, rfl, rfl, by decide +kernel, rfl, by decide +kernel, by decide +kernel⟩
theorem eqv_ints_false : ∀ {a b : List Int}, a ≠ b → PyData.eqv (.list (a.map PyData.int)) (.list (b.map PyData.int)) = false := by
  intro a
  induction a with
  | nil =>
    intro b h
    cases b with
    | nil => exact absurd rfl h
    | cons x r => simp [PyData.eqv, PyData.eqvAll]
  | cons y r ih =>
    intro b h
    cases b with
    | nil => simp [PyData.eqv, PyData.eqvAll]
    | cons x s =>
      by_cases hxy : y = x
      · have hrs : r ≠ s := fun e => h (by rw [hxy, e])
        have := ih hrs
        simp only [PyData.eqv] at this
        simp [PyData.eqv, PyData.eqvAll, this]
      · simp [PyData.eqv, PyData.eqvAll, hxy]
section
variable {P : Program} {w : World} {K : PySem.W.Frag} {mg : Str → Option Value} {base : Heap}
theorem ok_need_orderX {f CO : Addr} {fd : FuncData} (F : Fun K "need_order" "need_order" s_need_order f fd) (OO : OwnC K mg "BadOrder" CO) (ms : mg "sorted" = none) (ml : mg "list" = none) (mr : mg "range" = none) (mn : mg "len" = none) :
    FnOk P w K mg base (L2.CX P w) 3 f fd ["asks", "order"] (sp_need_orderX CO K) := by
  refine F.okX sc_need_order (fun vs H Q E h => ?_) (fun cdv A outer s H vs Q E hr h => ?_)
  · obtain ⟨u, o, l, os, rfl, _⟩ := h
    rfl
  · obtain ⟨u, o, l, ns, rfl, ha, ho, hlen, hperm, qe⟩ := h
    obtain ⟨b, xs, rfl, hL, hxl, hat⟩ := dp_asks ha
    obtain ⟨c, rfl, hO⟩ := dp_ints ho
    refine ⟨_, pss_one (ps_if (pt_cmpR (op_neD hr.units) (pe_callB cr_sortedI (by rfl) ms (by decide +kernel) (pa_cons (pv 1) pa_nil)) (pe_listRg rfl rfl ml (prg_1 rfl mr (pe_callB call_len_seq (by rfl) mn PySem.boot_len (pa_cons (pv 0) pa_nil)))) (nomark _))
      (pss_one (ps_raiseO (takes_of rfl rfl rfl rfl) OO (by rfl))) pss_nil), ?_⟩
    refine ⟨_, rfl, c, _, rfl, hO, fun ns' p perm rising hp => ?_⟩
    have s1 : Same H (upd H p (.lst (ns'.map V.int))) := same_new hp
    refine ⟨_, rfl, b, xs, rfl, .inl (s1.seq hL), _, rfl, RgOk.of_le (by decide) (by rw [hxl]; omega) (by decide) (by omega), fun r hr => ?_⟩
    have s2 := same_new (o := .lst (rgV 0 (xs.length : Int))) hr
    have e2 : rgV 0 (xs.length : Int) = (nints (List.range l.length)).map V.int := by rw [hxl]; exact rg_nints _
    refine ⟨.list (ns'.map PyData.int), .list ((nints (List.range l.length)).map PyData.int), dp_ints_of (.inl (.inl (s2 _ _ upd_same))), dp_ints_of (.inl (.inl (by rw [upd_same, e2]))), shaped_ints _, shaped_ints _, _, rfl, ?_⟩
    rw [eqv_ints_false fun e => hperm (by rw [← e]; exact perm.symm)]
    exact iteT (qe _ (s1.trans s2))
end
end Ag

namespace Ag
open PySem PySem.Spec PyProof.Rows L2
/-! ### by_order and by_rule, where they refuse -/
abbrev s_by_order : Stmt := top 21
abbrev s_by_rule : Stmt := top 27
def sp_by_orderX (CD CB CO : Addr) (K : PySem.W.Frag) : Sp := fun vs H Q E => ∃ (v u o : V) (d : Disk) (l : List Ask) (ns : List Int), vs = [v, u, o] ∧ Dp K H v (dDisk d) ∧ Dp K H u (dAsks l) ∧ Dp K H o (.list (ns.map PyData.int)) ∧ l.length ≤ 1000 ∧ Refu d l CD CB H E (¬ ns.Perm (nints (List.range l.length)) ∧ ∀ H' : Hp, Same H H' → E (.ref CO) none H')
def sp_by_ruleX (CD CB CR : Addr) (K : PySem.W.Frag) : Sp := fun vs H Q E => ∃ (v u : V) (x : Str) (d : Disk) (l : List Ask), vs = [v, u, .str x] ∧ Dp K H v (dDisk d) ∧ Dp K H u (dAsks l) ∧ l.length ≤ 16000000 ∧ Refu d l CD CB H E (inV (.str x) rulesV = false ∧ E (.ref CR) none H)
theorem sc_by_order : FnScope ["disk", "asks", "order", "rows"] ["disk", "asks", "order"] (defScope s_by_order) := ⟨rfl, rfl, rfl, by decide +kernel, rfl, by decide +kernel, by decide +kernel⟩
theorem sc_by_rule : FnScope ["disk", "asks", "rule", "rows"] ["disk", "asks", "rule"] (defScope s_by_rule) := ⟨rfl, rfl, rfl, by decide +kernel, rfl, by decide +kernel, by decide +kernel⟩
section
variable {P : Program} {w : World} {K : PySem.W.Frag} {mg : Str → Option Value} {base : Heap}
theorem ok_by_orderX {f f1 f2 f3 CD CB CO : Addr} {fd fd1 fd2 fd3 : FuncData} (F : Fun K "by_order" "by_order" s_by_order f fd)
    (G_need_disk : FnOk P w K mg base (L2.CX P w) 3 f1 fd1 ["disk"] (sp_need_diskX CD K)) (C_need_disk : Cal K mg "need_disk" f1 fd1 ["disk"])
    (G_need_asks : FnOk P w K mg base (L2.CX P w) 3 f2 fd2 ["disk", "asks"] (sp_need_asksX CB K)) (C_need_asks : Cal K mg "need_asks" f2 fd2 ["disk", "asks"])
    (G_need_order : FnOk P w K mg base (L2.CX P w) 3 f3 fd3 ["asks", "order"] (sp_need_orderX CO K)) (C_need_order : Cal K mg "need_order" f3 fd3 ["asks", "order"]) :
    FnOk P w K mg base (L2.CX P w) 5 f fd ["disk", "asks", "order"] (sp_by_orderX CD CB CO K) := by
  refine F.okX sc_by_order (fun vs H Q E h => ?_) (fun cdv A outer s H vs Q E hr h => ?_)
  · obtain ⟨v, u, o, d, l, ns, rfl, _⟩ := h
    rfl
  · obtain ⟨v, u, o, d, l, ns, rfl, hd, ha, ho, hl, r1, r2, r3⟩ := h
    have nd := sc_by_order.nd
    have hr_need_disk : Room 3 _ := hr.mono (by decide)
    have hr_need_asks : Room 3 _ := hr.mono (by decide)
    have hr_need_order : Room 3 _ := hr.mono (by decide)
    refine ⟨_, (pss_cons (ps_expr (pe_callS G_need_disk hr_need_disk (by rfl) C_need_disk.m C_need_disk.k C_need_disk.b (fun σ => passAt (takes_of rfl rfl rfl rfl) σ) (pa_cons (pv 0) pa_nil)))
      (pss_cons (ps_expr (pe_callS G_need_asks hr_need_asks (by rfl) C_need_asks.m C_need_asks.k C_need_asks.b (fun σ => passAt (takes_of rfl rfl rfl rfl) σ) (pa_cons (pv 0) (pa_cons (pv 1) pa_nil))))
      (pss_cons (ps_expr (pe_callS G_need_order hr_need_order (by rfl) C_need_order.m C_need_order.k C_need_order.b (fun σ => passAt (takes_of rfl rfl rfl rfl) σ) (pa_cons (pv 1) (pa_cons (pv 2) pa_nil))))
      (pss_cons ps_dead
      (pss_one ps_dead))))), ?_⟩
    refine ⟨_, rfl, v, d, rfl, hd, fun gd => ?_, r1⟩
    refine ⟨_, rfl, _, rfl, v, u, d, l, rfl, hd, ha, by omega, fun hf => ?_, r2 gd⟩
    obtain ⟨hp, qe⟩ := r3 gd hf
    exact ⟨_, rfl, _, rfl, u, o, l, ns, rfl, ha, ho, hl, hp, qe⟩
theorem ok_by_ruleX {f f1 f2 f3 CD CB CR : Addr} {fd fd1 fd2 fd3 : FuncData} (F : Fun K "by_rule" "by_rule" s_by_rule f fd)
    (G_need_disk : FnOk P w K mg base (L2.CX P w) 3 f1 fd1 ["disk"] (sp_need_diskX CD K)) (C_need_disk : Cal K mg "need_disk" f1 fd1 ["disk"])
    (G_need_asks : FnOk P w K mg base (L2.CX P w) 3 f2 fd2 ["disk", "asks"] (sp_need_asksX CB K)) (C_need_asks : Cal K mg "need_asks" f2 fd2 ["disk", "asks"])
    (G_need_rule : FnOk P w K mg base (L2.CX P w) 3 f3 fd3 ["rule"] (sp_need_ruleX CR K)) (C_need_rule : Cal K mg "need_rule" f3 fd3 ["rule"]) :
    FnOk P w K mg base (L2.CX P w) 5 f fd ["disk", "asks", "rule"] (sp_by_ruleX CD CB CR K) := by
  refine F.okX sc_by_rule (fun vs H Q E h => ?_) (fun cdv A outer s H vs Q E hr h => ?_)
  · obtain ⟨v, u, x, d, l, rfl, _⟩ := h
    rfl
  · obtain ⟨v, u, x, d, l, rfl, hd, ha, hl, r1, r2, r3⟩ := h
    have nd := sc_by_rule.nd
    have hr_need_disk : Room 3 _ := hr.mono (by decide)
    have hr_need_asks : Room 3 _ := hr.mono (by decide)
    have hr_need_rule : Room 3 _ := hr.mono (by decide)
    refine ⟨_, (pss_cons (ps_expr (pe_callS G_need_disk hr_need_disk (by rfl) C_need_disk.m C_need_disk.k C_need_disk.b (fun σ => passAt (takes_of rfl rfl rfl rfl) σ) (pa_cons (pv 0) pa_nil)))
      (pss_cons (ps_expr (pe_callS G_need_asks hr_need_asks (by rfl) C_need_asks.m C_need_asks.k C_need_asks.b (fun σ => passAt (takes_of rfl rfl rfl rfl) σ) (pa_cons (pv 0) (pa_cons (pv 1) pa_nil))))
      (pss_cons (ps_expr (pe_callS G_need_rule hr_need_rule (by rfl) C_need_rule.m C_need_rule.k C_need_rule.b (fun σ => passAt (takes_of rfl rfl rfl rfl) σ) (pa_cons (pv 2) pa_nil)))
      (pss_cons ps_dead
      (pss_one ps_dead))))), ?_⟩
    refine ⟨_, rfl, v, d, rfl, hd, fun gd => ?_, r1⟩
    refine ⟨_, rfl, _, rfl, v, u, d, l, rfl, hd, ha, hl, fun hf => ?_, r2 gd⟩
    obtain ⟨hx, qe⟩ := r3 gd hf
    exact ⟨_, rfl, x, rfl, hx, qe⟩
end
end Ag

namespace Ag
open PySem PySem.Spec PyProof.Rows L2
/-! ### read, of a bad disk alone -/
abbrev s_read : Stmt := top 41
def sp_read_dead (CD : Addr) (K : PySem.W.Frag) : Sp := fun vs H Q E => ∃ (v : V) (d : Disk) (x : Str), vs = [v, .str x] ∧ Dp K H v (dDisk d) ∧ ¬ GoodDisk d ∧ ∀ y, whyD d = some y → ∀ e, H e = none → E (.ref CD) (some e) (upd H e (.xd [("word", .str y)]))
theorem sc_read : FnScope ["disk", "text", "found", "lines", "row", "words", "word"] ["disk", "text"] (defScope s_read) := ⟨rfl, rfl, rfl, by decide +kernel, rfl, by decide +kernel, by decide +kernel⟩
section
variable {P : Program} {w : World} {K : PySem.W.Frag} {mg : Str → Option Value} {base : Heap}
theorem ok_read_dead {f f1 CD : Addr} {fd fd1 : FuncData} (F : Fun K "read" "read" s_read f fd)
    (G_need_disk : FnOk P w K mg base (L2.CX P w) 3 f1 fd1 ["disk"] (sp_need_diskX CD K)) (C_need_disk : Cal K mg "need_disk" f1 fd1 ["disk"]) :
    FnOk P w K mg base (L2.CX P w) 5 f fd ["disk", "text"] (sp_read_dead CD K) := by
  refine F.okX sc_read (fun vs H Q E h => ?_) (fun cdv A outer s H vs Q E hr h => ?_)
  · obtain ⟨v, d, x, rfl, _⟩ := h
    rfl
  · obtain ⟨v, d, x, rfl, hd, nb, r1⟩ := h
    have nd := sc_read.nd
    have hr_need_disk : Room 3 _ := hr.mono (by decide)
    refine ⟨_, (pss_cons (ps_expr (pe_callS G_need_disk hr_need_disk (by rfl) C_need_disk.m C_need_disk.k C_need_disk.b (fun σ => passAt (takes_of rfl rfl rfl rfl) σ) (pa_cons (pv 0) pa_nil)))
      (pss_cons ps_dead
      (pss_cons ps_dead
      (pss_cons ps_dead
      (pss_cons ps_dead
      (pss_one ps_dead)))))), ?_⟩
    exact ⟨_, rfl, v, d, rfl, hd, fun gd => absurd gd nb, r1⟩
end
end Ag

namespace Ag
open PySem PySem.Spec PyProof.Rows L2
/-! ### written, which may refuse -/
theorem goodAsks_of {d : Disk} {l : List Ask} (h : ∀ (i : Nat) (k : Ask), l[i]? = some k → Fits d i k) : GoodAsks d l := by
  refine ⟨?_, fun a ha => ?_⟩
  · rcases Nat.lt_or_ge 40 l.length with h40 | h40
    · have := (h 40 _ (List.getElem?_eq_getElem h40)).1
      omega
    · exact h40
  · obtain ⟨i, hi⟩ := List.mem_iff_getElem?.mp ha
    exact (h i a hi).2
abbrev s_written : Stmt := top 39
def sp_writtenX (CD CB : Addr) (K : PySem.W.Frag) : Sp := fun vs H Q E => ∃ (v u : V) (d : Disk) (l : List Ask), vs = [v, u] ∧ Dp K H v (dDisk d) ∧ Dp K H u (dAsks l) ∧ l.length ≤ 16000000 ∧ Refu d l CD CB H E (∀ H', Same H H' → Q (.str (textS l)) H')
theorem sc_written : FnScope ["disk", "asks", "ask", "number"] ["disk", "asks"] (defScope s_written) := ⟨rfl, rfl, rfl, by decide +kernel, rfl, by decide +kernel, by decide +kernel⟩
section
variable {P : Program} {w : World} {K : PySem.W.Frag} {mg : Str → Option Value} {base : Heap}
theorem ok_writtenX {f f1 f2 CD CB : Addr} {fd fd1 fd2 : FuncData} (F : Fun K "written" "written" s_written f fd)
    (G_need_disk : FnOk P w K mg base (L2.CX P w) 3 f1 fd1 ["disk"] (sp_need_diskX CD K)) (C_need_disk : Cal K mg "need_disk" f1 fd1 ["disk"])
    (G_need_asks : FnOk P w K mg base (L2.CX P w) 3 f2 fd2 ["disk", "asks"] (sp_need_asksX CB K)) (C_need_asks : Cal K mg "need_asks" f2 fd2 ["disk", "asks"])
    (mb_str : mg "str" = none) : FnOk P w K mg base (L2.CX P w) 5 f fd ["disk", "asks"] (sp_writtenX CD CB K) := by
  refine F.okX sc_written (fun vs H Q E h => ?_) (fun cdv A outer s H vs Q E hr h => ?_)
  · obtain ⟨v, u, d, l, rfl, _⟩ := h
    rfl
  · obtain ⟨v, u, d, l, rfl, hd, ha, hl0, r1, r2, r3⟩ := h
    have nd := sc_written.nd
    have hr_need_disk : Room 3 _ := hr.mono (by decide)
    have hr_need_asks : Room 3 _ := hr.mono (by decide)
    obtain ⟨b, xs, rfl, hL, hlen, hat⟩ := dp_asks ha
    refine ⟨_, (pss_cons (ps_expr (pe_callS G_need_disk hr_need_disk (by rfl) C_need_disk.m C_need_disk.k C_need_disk.b (fun σ => passAt (takes_of rfl rfl rfl rfl) σ) (pa_cons (pv 0) pa_nil)))
      (pss_cons (ps_expr (pe_callS G_need_asks hr_need_asks (by rfl) C_need_asks.m C_need_asks.k C_need_asks.b (fun σ => passAt (takes_of rfl rfl rfl rfl) σ) (pa_cons (pv 0) (pa_cons (pv 1) pa_nil))))
      (pss_one (ps_ret (pe_join pe_str (pe_lc (own := [("ask", 2)]) (g := (gName 2)) (tt := tYes) rfl nd (pi_list (pv 1)) (blkOk_by (own := [("ask", 2)]) (N := ["disk", "asks", "ask", "number"]) (sc := defScope s_written) (by decide +kernel)) (fun _ _ _ _ _ => (pg_name (i := 2) nd rfl (.inl rfl))) (fun _ _ _ _ _ => pts_nil) (fun _ _ _ _ _ => (pe_joinK (K := K) pe_str (pe_lc (wi := iTup K (tVar 2)) (own := [("number", 3)]) (g := (gName 3)) (tt := tYes) rfl nd (pi_tup (pv 2)) (blkOk_by (own := [("number", 3)]) (N := ["disk", "asks", "ask", "number"]) (by show blkC _ (Scope.mk .function [(".0", .local), ("ask", .local)] false false []) _ _ = true; decide +kernel)) (fun _ _ _ _ _ => (pg_name (i := 3) nd rfl (.inl rfl))) (fun _ _ _ _ _ => pts_nil) (fun _ _ _ _ _ => (pe_callTy call_str_int (by rfl) mb_str (by decide +kernel) (pa_cons (pv 3) pa_nil)))))))))))), ?_⟩
    refine ⟨_, rfl, v, d, rfl, hd, fun gd => ?_, r1⟩
    refine ⟨_, rfl, _, rfl, _, _, d, l, rfl, hd, ha, hl0, fun hf => ?_, r2 gd⟩
    have g := goodAsks_of hf
    have h40 := g.len
    have q := r3 gd hf
    refine ⟨⟨_, rfl⟩, _, rfl, b, rfl, ⟨xs, hL⟩, fun D hD => ?_⟩
    have s1 := same_new (o := .lst []) hD
    have few : ∀ q ∈ l, ∀ n ∈ askNs q, Few n := fun q hq => askNs_few gd (g.all q hq)
    refine lc_list (K := K) (a := b) (xs := xs) (fun i H' => Same H H' ∧ H' D = some (.lst (((l.take i).map rowS).map V.str))) ⟨s1, upd_same⟩ (fun i H' _ ⟨s, _⟩ => s.seq hL) ?_ ?_
    · rintro i x H' hi ⟨s2, eD⟩
      have hlt : i < xs.length := (List.getElem?_eq_some_iff.mp hi).1
      obtain ⟨k, hk⟩ : ∃ k, l[i]? = some k := ⟨_, List.getElem?_eq_getElem (by omega)⟩
      obtain ⟨p, hp, hpT, _⟩ := hat i k hk
      obtain rfl : x = .ref p := Option.some.inj (hi.symm.trans hp)
      have fk := few k (List.mem_of_getElem? hk)
      refine ⟨rfl, ⟨_, rfl⟩, _, rfl, p, rfl, ⟨_, hpT.elim (fun h => same_sqt s2 (.inl h)) fun h => same_sqt s2 (.inr h)⟩, fun D2 hD2 => ?_⟩
      have sD2 := same_new (o := .lst []) hD2
      have nDD : D ≠ D2 := ne_of_none eD hD2
      refine lc_tup (K := K) (a := p) (xs := (askNs k).map V.int) (fun j H'' => Same H' H'' ∧ H'' D2 = some (.lst ((((askNs k).take j).map numS).map V.str))) ⟨sD2, upd_same⟩ (fun j H'' _ ⟨s, _⟩ => same_sqt (s2.trans s) hpT) ?_ ?_
      · rintro j x H'' hj ⟨s3, eD2⟩
        obtain ⟨n, hn, rfl⟩ : ∃ n, (askNs k)[j]? = some n ∧ x = .int n := by
          rw [List.getElem?_map] at hj
          cases e : (askNs k)[j]? with
          | none => rw [e] at hj; cases hj
          | some n => rw [e] at hj; exact ⟨n, rfl, (Option.some.inj hj).symm⟩
        have hj3 : j < 3 := (List.getElem?_eq_some_iff.mp hn).1
        refine ⟨rfl, _, rfl, n, rfl, log2_small (fk n (List.mem_of_getElem? hn)), _, eD2, ?_, same_upd s3 hD2, ?_⟩
        · rw [List.length_map, List.length_map, List.length_take]
          exact small1000 (by omega)
        · rw [upd_same, take_more hn, List.map_append, List.map_append]
          rfl
      · rintro H'' ⟨s3, eD2⟩
        have e3 : (askNs k).take ((askNs k).map V.int).length = askNs k := rfl
        rw [e3] at eD2
        refine ⟨_, D2, (askNs k).map numS, rfl, rfl, .inl (SqL.of eD2), ?_, ?_⟩
        · have := sum_len (k := 3) (ws := (askNs k).map numS) fun z hz => by
            obtain ⟨n, hn, rfl⟩ := List.mem_map.mp hz
            exact (numS_len (fk n hn)).2
          have e1 : ((askNs k).map numS).length = 3 := rfl
          have e2 : spS.length = 1 := by decide +kernel
          rw [e1] at this ⊢
          show _ + 3 * spS.length ≤ _
          rw [e2]
          omega
        · have eD3 := s3 _ _ eD
          refine ⟨_, eD3, ?_, same_upd (s2.trans s3) hD, ?_⟩
          · rw [List.length_map, List.length_map, List.length_take]
            exact small1000 (by omega)
          · rw [upd_same, take_more hk, List.map_append, List.map_append]
            rfl
    · rintro H' ⟨s2, eD⟩
      rw [List.take_of_length_le (by omega)] at eD
      refine ⟨_, D, l.map rowS, rfl, rfl, .inl (SqL.of eD), ?_, ?_⟩
      · have := sum_len (k := 11) (ws := l.map rowS) fun z hz => by
          obtain ⟨n, hn, rfl⟩ := List.mem_map.mp hz
          exact (rowS_len (few n hn)).2
        have e2 : nlS.length = 1 := by decide +kernel
        rw [List.length_map] at this ⊢
        show _ + l.length * nlS.length ≤ _
        rw [e2]
        omega
      · exact q _ s2
end
end Ag

namespace Ag
open PySem PySem.Spec PyProof.Rows L2
/-! ### served -/
abbrev s_served : Stmt := top 16
def sp_served (K : PySem.W.Frag) : Sp := fun vs H Q _ => ∃ (v u : V) (d : Disk) (now here : Int) (a : Ask), vs = [v, .int now, .int here, u] ∧ Dp K H v (dDisk d) ∧ Dp K H u (dAsk a) ∧ GoodDisk d ∧ Q (.int (serve d now here a)) H
theorem sc_served : FnScope ["disk", "now", "here", "ask", "come", "track", "sector", "there"] ["disk", "now", "here", "ask"] (defScope s_served) := ⟨rfl, rfl, rfl, by decide +kernel, rfl, by decide +kernel, by decide +kernel⟩
section
variable {P : Program} {w : World} {K : PySem.W.Frag} {mg : Str → Option Value} {base : Heap}
theorem ok_served {f : Addr} {fd : FuncData} (F : Fun K "served" "served" s_served f fd) (mm : mg "max" = none) (ma : mg "abs" = none) : FnOk P w K mg base CX0 1 f fd ["disk", "now", "here", "ask"] (sp_served K) := by
  refine F.ok sc_served (fun vs H Q E h => ?_) (fun cdv A outer s H vs Q E hr h => ?_)
  · obtain ⟨v, u, d, now, here, a, rfl, _⟩ := h
    rfl
  · obtain ⟨v, u, d, now, here, ask, rfl, hd, hk, g, q⟩ := h
    obtain ⟨a, rfl, hT⟩ := dp_disk hd
    obtain ⟨b, rfl, hA⟩ := dp_tints hk
    have nd := sc_served.nd
    refine ⟨_, pss_cons (ps_asg (pv 3) (pg_tup rfl (pgs_cons (pg_name (i := 4) nd rfl (.inl rfl)) (pgs_cons (pg_name (i := 5) nd rfl (.inl rfl)) (pgs_cons (pg_name (i := 6) nd rfl (.inl rfl)) pgs_nil)))))
      (pss_cons (ps_set (i := 7) nd rfl (.inl rfl) (pe_op op_add (pe_callB (call_max2 rfl) (by rfl) mm (by decide +kernel) (pa_cons (pv 1) (pa_cons (pv 4) pa_nil))) (pe_op op_mul (pe_callB call_abs (by rfl) ma (by decide +kernel) (pa_cons (pe_op op_sub (pv 5) (pv 2)) pa_nil)) (pe_ix ix_tup (pv 0) pe_int (fun _ _ => rfl)))))
      (pss_one (ps_ret (pe_op op_add (pe_op op_add (pv 7) (pe_op op_mod (pe_op op_sub (pv 6) (pv 7)) (pe_ix ix_tup (pv 0) pe_int (fun _ _ => rfl)))) pe_int)))), ?_⟩
    refine ⟨_, rfl, b, _, rfl, hA, rfl, _, _, rfl, _, _, rfl, _, _, rfl, rfl, ?_⟩
    refine ⟨_, rfl, _, rfl, _, _, rfl, _, rfl, _, rfl, _, _, rfl, rfl, _, rfl, _, rfl, a, _, 2, _, rfl, rfl, hT, atI_nat (j := 2) rfl, _, _, rfl, rfl, .inr ⟨by have := g.p1; omega, by have := g.p2; omega⟩, _, _, rfl, rfl, ?_⟩
    refine ⟨_, rfl, _, rfl, _, rfl, _, _, rfl, rfl, _, rfl, a, _, 1, _, rfl, rfl, hT, atI_nat (j := 1) rfl, _, _, rfl, rfl, (by have := g.s1; show (0 : Int) < d.sc; omega), _, _, rfl, rfl, _, _, rfl, rfl, ?_⟩
    exact q
end
end Ag

namespace Ag
open PySem PySem.Spec PyProof.Rows L2
/-! ### the arm: its class, its object -/
open LamX NdefX
def mth (j : Nat) : Stmt := (clsB (top 25)).getD j (.Pass ⟨0, 0, 0, 0⟩)
structure ArmC (K : PySem.W.Frag) (C : Addr) : Prop where
  glo : PySem.W.nsIn K mainGlobals "Arm" = some (some (.ref C))
  cl : Cls K C
  disk : NoAttr K C "disk"
  asks : NoAttr K C "asks"
  now : NoAttr K C "now"
  here : NoAttr K C "here"
  up : NoAttr K C "up"
  left : NoAttr K C "left"
structure Mt (K : PySem.W.Frag) (C : Addr) (x : Str) (f : Addr) (fd : FuncData) (ps : List Str) : Prop where
  m : Meth K C x f
  b : Binds K fd ps []
/-- where an arm's things stand -/
structure ArmP where
  C : Addr
  p : Addr
  dx : Addr
  a : Addr
  b : Addr
  Lf : Addr
def flds (z : ArmP) (s : ArmS) : List (Str × V) := [("disk", .ref z.a), ("asks", .ref z.b), ("now", .int s.now), ("here", .int s.here), ("up", .bl s.up), ("left", .ref z.Lf)]
structure ArmH (K : PySem.W.Frag) (z : ArmP) (d : Disk) (l : List Ask) (G H : Hp) (s : ArmS) : Prop where
  nt : ∀ b ps, G b ≠ some (.tbl ps)
  sub : Same G H
  gp : G z.p = none
  gL : G z.Lf = none
  dk : Dp K G (.ref z.a) (dDisk d)
  ak : Dp K G (.ref z.b) (dAsks l)
  ins : H z.p = some (.ins z.C z.dx (flds z s))
  lf : H z.Lf = some (.lst ((nints s.left).map V.int))
  lt : ∀ n ∈ s.left, n < l.length
theorem ArmH.keep {K : PySem.W.Frag} {z : ArmP} {d : Disk} {l : List Ask} {G H H' : Hp} {s : ArmS} (h : ArmH K z d l G H s) (e : ExtN H H') : ArmH K z d l G H' s :=
  ⟨h.nt, fun b o k => e b o (h.sub b o k) (fun ps q => h.nt b ps (q ▸ k)), h.gp, h.gL, h.dk, h.ak, e _ _ h.ins (fun ps q => by cases q), e _ _ h.lf (fun ps q => by cases q), h.lt⟩
theorem ArmH.same {K : PySem.W.Frag} {z : ArmP} {d : Disk} {l : List Ask} {G H H' : Hp} {s : ArmS} (h : ArmH K z d l G H s) (e : Same H H') : ArmH K z d l G H' s := h.keep (.of e)
theorem ArmH.disk {K : PySem.W.Frag} {z : ArmP} {d : Disk} {l : List Ask} {G H : Hp} {s : ArmS} (h : ArmH K z d l G H s) : SqT K H z.a [.int d.tr, .int d.sc, .int d.pa, .int d.he] := by
  obtain ⟨a, e, hT⟩ := dp_disk h.dk
  cases e
  exact same_sqt h.sub hT
theorem ArmH.ask {K : PySem.W.Frag} {z : ArmP} {d : Disk} {l : List Ask} {G H : Hp} {s : ArmS} (h : ArmH K z d l G H s) {n : Nat} (hn : n < l.length) : ∃ xs q, SqL K H z.b xs ∧ xs.length = l.length ∧ xs[n]? = some (.ref q) ∧ SqT K H q [.int (come l n), .int (trk l n), .int (l.getD n (0, 0, 0)).2.2] ∧ Dp K H (.ref q) (dAsk (l.getD n (0, 0, 0))) := by
  obtain ⟨b, xs, e, hL, hlen, hat⟩ := dp_asks h.ak
  cases e
  have hk : l[n]? = some (l.getD n (0, 0, 0)) := by rw [List.getD_eq_getElem?_getD, List.getElem?_eq_getElem hn]; rfl
  obtain ⟨q, hq, hT, hd⟩ := hat n _ hk
  exact ⟨xs, q, h.sub.seq hL, hlen, hq, same_sqt h.sub hT, dp_same h.sub hd⟩
theorem tabB_up {base b2 : Heap} {mg : Str → Option Value} {c P : Addr} (h : TabB base mg c P) (up : ∀ b o, base.get? b = some o → b2.get? b = some o) : TabB b2 mg c P := ⟨h.code.keeps up, h.bm.keeps up, h.gP⟩
/-- the lambda's name in a method -/
def lq (q : Str) : Str := q ++ ".<locals>." ++ "<lambda>"
theorem lamC_by {X : Cx} {T : List (Addr × Str)} {c P : Addr} {params : Arguments} {scope : Scope} {fr : List Str} {js : List Nat} (sc : Scope) (hsc : X.env.scope = sc) (tb : TabB X.base X.mg c P) (code : X.env.code = .ref c) (mem : (P, X.env.qual ++ "<lambda>") ∈ T) (one : ∀ p ∈ T, p.1 = P → p.2 = X.env.qual ++ "<lambda>")
    (dfl : defaultsOf params X.env = ([], [])) (fn : ∀ y, X.fn y = true) (h : ndefB sc scope fr = true) (jss : js.map (fun j => X.N[j]?) = fr.map some) : LamC X T c P params scope fr js :=
  ⟨tb, code, mem, one, dfl, fn, fun y hy e => by rw [hsc]; exact ndef_free h y hy e, ndef_fr h, jss⟩
/-! ### far -/
abbrev s_far : Stmt := mth 2
def sp_far (K : PySem.W.Frag) : Sp := fun vs H Q _ => ∃ (z : ArmP) (d : Disk) (l : List Ask) (G : Hp) (s : ArmS) (n : Nat), vs = [.ref z.p, .int (n : Int)] ∧ ArmH K z d l G H s ∧ ArmC K z.C ∧ n < l.length ∧ Q (.int (trk l n - s.here)) H
theorem sc_far : FnScope ["self", "number"] ["self", "number"] (defScope s_far) := ⟨rfl, rfl, rfl, by decide +kernel, rfl, by decide +kernel, by decide +kernel⟩
section
variable {P : Program} {w : World} {K : PySem.W.Frag} {mg : Str → Option Value} {base : Heap}
theorem ok_far {f : Addr} {fd : FuncData} (F : Fun K "far" "Arm.far" s_far f fd) : FnOk P w K mg base CX0 1 f fd ["self", "number"] (sp_far K) := by
  refine F.ok sc_far (fun vs H Q E h => ?_) (fun cdv A outer s H vs Q E hr h => ?_)
  · obtain ⟨z, d, l, G, s, n, rfl, _⟩ := h
    rfl
  · obtain ⟨z, d, l, G, st, n, rfl, hA, hC, hn, q⟩ := h
    have nd := sc_far.nd
    obtain ⟨xs, qa, hL, hlen, hq, hT, _⟩ := hA.ask hn
    refine ⟨_, (pss_one (ps_ret (pe_op op_sub (pe_ix (r := rIxT K) ix_tup (pe_ix (r := rIxL K) ix_list (pe_fld (pv 0) rfl) (pv 1) (fun _ _ => rfl)) pe_int (fun _ _ => rfl)) (pe_fld (pv 0) rfl)))), ?_⟩
    refine ⟨_, rfl, z.p, z.C, z.dx, _, _, rfl, hA.ins, hC.cl, hC.asks, rfl, _, rfl, z.b, xs, _, _, rfl, rfl, hL, atI_nat hq, ?_⟩
    refine ⟨qa, _, 1, _, rfl, rfl, hT, atI_nat (j := 1) rfl, ?_⟩
    refine ⟨_, rfl, z.p, z.C, z.dx, _, _, rfl, hA.ins, hC.cl, hC.here, rfl, _, _, rfl, rfl, ?_⟩
    exact q
end
end Ag

namespace Ag
open PySem PySem.Spec PyProof.Rows L2
/-! ### first_of -/
open LamX NdefX
abbrev s_first_of : Stmt := mth 3
def nin (pool : List Nat) (n : Int) : Prop := n ∈ nints pool
theorem nin_nat {pool : List Nat} {n : Int} (h : nin pool n) : ∃ m, m ∈ pool ∧ n = (m : Int) := by
  obtain ⟨m, hm, e⟩ := List.mem_map.mp h
  exact ⟨m, hm, e.symm⟩
/-- the lambdas' tables -/
structure ArmT (base : Heap) (mg : Str → Option Value) (T : List (Addr × Str)) (c P : Addr) (q : Str) : Prop where
  tb : TabB base mg c P
  mem : (P, lq q) ∈ T
  one : ∀ p ∈ T, p.1 = P → p.2 = lq q
theorem ArmT.up {base b2 : Heap} {mg : Str → Option Value} {T : List (Addr × Str)} {c P : Addr} {q : Str} (h : ArmT base mg T c P q) (up : ∀ b o, base.get? b = some o → b2.get? b = some o) : ArmT b2 mg T c P q := ⟨tabB_up h.tb up, h.mem, h.one⟩
def sp_first_of (K : PySem.W.Frag) (T : List (Addr × Str)) (z : ArmP) (d : Disk) (l : List Ask) (G : Hp) (st : ArmS) (pool : List Nat) (g : Nat → Int) (H0 : Hp) (fk : Addr) : Sp := fun vs H Q _ => ∃ W : Addr, H = H0 ∧ vs = [.ref z.p, .ref W, .ref fk] ∧ ArmH K z d l G H st ∧ ArmC K z.C ∧
  H W = some (.lst ((nints pool).map V.int)) ∧ pool ≠ [] ∧ (∀ n ∈ pool, n < l.length) ∧ Tabs T H ∧ ∀ H', ExtN H H' → Tabs T H' → Q (.int ((pick (key3 l g) pool : Nat) : Int)) H'
theorem sc_first_of : FnScope ["self", "some", "key"] ["self", "some", "key"] (defScope s_first_of) := ⟨rfl, rfl, rfl, by decide +kernel, rfl, by decide +kernel, by decide +kernel⟩
section
variable {P : Program} {w : World} {K : PySem.W.Frag} {mg : Str → Option Value} {base : Heap}
theorem ok_first_of {k : Nat} {f cf Pf fk : Addr} {fd : FuncData} {T : List (Addr × Str)} {z : ArmP} {d : Disk} {l : List Ask} {G H0 : Hp} {st : ArmS} {pool : List Nat} {g : Nat → Int} (F : FunC K "first_of" "Arm.first_of" s_first_of f fd cf) (AT : ArmT base mg T cf Pf "Arm.first_of")
    (KF : KeyFn P w K mg base k fk (nin pool) (ExtN H0) (ansI fun n => g n.toNat)) (mb_min : mg "min" = none) : FnOk P w K mg base CX0 (k + 3) f fd ["self", "some", "key"] (sp_first_of K T z d l G st pool g H0 fk) := by
  refine F.ok sc_first_of (fun vs H Q E h => ?_) (fun A outer s H vs Q E hr h => ?_)
  · obtain ⟨W, _, rfl, _⟩ := h
    rfl
  · obtain ⟨W, rfl, rfl, hA, hC, hW, hne, hlt, hT, q⟩ := h
    have nd := sc_first_of.nd
    refine ⟨_, pss_one (ps_ret (pe_minL (T := T) (fr := ["key", "self"]) (js := [2, 0]) (k := k + 1) (lamC_by (defScope s_first_of) rfl AT.tb rfl AT.mem AT.one rfl (fun _ => rfl) (by decide +kernel) rfl) rfl hr (Nat.le_refl _) rfl mb_min (pv 1))), ?_⟩
    have hne' : nints pool ≠ [] := fun e => hne (List.map_eq_nil_iff.mp e)
    refine ⟨_, rfl, hT, W, nints pool, rfl, hW, hne', fun c' H2 eN T2 hc' => ⟨fun n => key3 l g n.toNat, fun _ => rfl, fun b2 fl up B => ?_, fun m H' E' hm hle => ?_⟩⟩
    · refine keyFn_lam (k := k) (N := ["number", "key", "self"]) (fr := ["key", "self"]) (x := "number") (nscope_by (by show nscB _ ["number"] _ (Scope.mk .function [("number", .local), ("key", .free), ("self", .free)] false false []) = true; decide +kernel)) B (fun _ _ _ => rfl) (fun H3 E3 => E3.same _ _ hc') (fun b3 A3 outer3 s3 H3 n up3 hr3 E3 hn => ?_)
      obtain ⟨m, hm, rfl⟩ := nin_nat hn
      have hA3 := hA.keep (eN.trans (.of E3.same))
      obtain ⟨xs, qa, hL, hlen, hq, hTq, _⟩ := hA3.ask (hlt m hm)
      refine ⟨_, pe_tup (pa_cons (pe_key (i := 1) KF (fun b o h => up3 b o (up b o h)) hr3 (Nat.le_refl _) rfl (.inr (.inr rfl)) (pa_cons (pv 0) pa_nil)) (pa_cons (pe_ix (r := rIxT K) ix_tup (pe_ix (r := rIxL K) ix_list (pe_fld (pv 2) rfl) (pv 0) (fun _ _ => rfl)) pe_int (fun _ _ => rfl)) (pa_cons (pv 0) pa_nil))), ?_⟩
      refine ⟨rfl, _, rfl, _, rfl, hn, eN.trans (.of E3.same), fun v H4 hv => ?_⟩
      obtain ⟨rfl, rfl⟩ := hv
      refine ⟨_, rfl, z.p, z.C, z.dx, _, _, rfl, hA3.ins, hC.cl, hC.asks, rfl, _, rfl, z.b, xs, _, _, rfl, rfl, hL, atI_nat hq, ?_⟩
      refine ⟨qa, _, 0, _, rfl, rfl, hTq, atI_nat (j := 0) rfl, ?_⟩
      exact ⟨_, rfl, (by show 3 ≤ sizeLine; decide), fun p hp => ⟨p, rfl, hp, rfl⟩⟩
    · obtain ⟨n, hn, rfl⟩ := nin_nat hm
      have e : n = pick (key3 l g) pool := pick_is (key3_len l g) (key3_inj l g) hn fun i hi => hle (i : Int) (List.mem_map.mpr ⟨i, hi, rfl⟩)
      rw [e]
      exact q H' (eN.trans (.of E'.same)) (T2.ext E'.same)
end
end Ag

namespace Ag
open PySem PySem.Spec PyProof.Rows L2
/-! ### swept, looped -/
open LamX NdefX
/-- all but the arm stays -/
def KeepP (z : ArmP) (H H' : Hp) : Prop := ∀ b o, b ≠ z.p → H b = some o → (∀ ps, o ≠ .tbl ps) → H' b = some o
theorem KeepP.of {z : ArmP} {H H' : Hp} (e : ExtN H H') : KeepP z H H' := fun b o _ h n => e b o h n
theorem KeepP.trans {z : ArmP} {H H1 H2 : Hp} (a : KeepP z H H1) (b : KeepP z H1 H2) : KeepP z H H2 := fun c o n h t => b c o n (a c o n h t) t
abbrev s_swept : Stmt := mth 4
def sp_swept (K : PySem.W.Frag) (T : List (Addr × Str)) : Sp := fun vs H Q _ => ∃ (z : ArmP) (d : Disk) (l : List Ask) (G : Hp) (st : ArmS) (pool : List Nat) (W : Addr), vs = [.ref z.p, .ref W] ∧ ArmH K z d l G H st ∧ ArmC K z.C ∧ l.length ≤ 40 ∧ pool.length ≤ 40 ∧
  H W = some (.lst ((nints pool).map V.int)) ∧ pool ≠ [] ∧ (∀ n ∈ pool, n < l.length) ∧ Tabs T H ∧ ∀ H', KeepP z H H' → Tabs T H' → ArmH K z d l G H' { st with up := sweptU l st pool } → Q (.int ((sweptN l st pool : Nat) : Int)) H'
theorem sc_swept : FnScope ["self", "some", "ahead", "number"] ["self", "some"] (defScope s_swept) := ⟨rfl, rfl, rfl, by decide +kernel, rfl, by decide +kernel, by decide +kernel⟩
theorem ArmH.turn {K : PySem.W.Frag} {z : ArmP} {d : Disk} {l : List Ask} {G H : Hp} {s s' : ArmS} (h : ArmH K z d l G H s) (e : s'.left = s.left) : ArmH K z d l G (upd H z.p (.ins z.C z.dx (flds z s'))) s' :=
  ⟨h.nt, fun b o k => by rw [upd_ne (ne_of_none k h.gp)]; exact h.sub b o k, h.gp, h.gL, h.dk, h.ak, upd_same, by rw [upd_ne (ne_of h.lf h.ins (by intro q; cases q)), e]; exact h.lf, by rw [e]; exact h.lt⟩
theorem put_up (z : ArmP) (s : ArmS) (u : Bool) : putF "up" (.bl u) (flds z s) = flds z { s with up := u } := by kernel_rfl
theorem put_now (z : ArmP) (s : ArmS) (u : Int) : putF "now" (.int u) (flds z s) = flds z { s with now := u } := by kernel_rfl
theorem put_here (z : ArmP) (s : ArmS) (u : Int) : putF "here" (.int u) (flds z s) = flds z { s with here := u } := by kernel_rfl
/-- the reading of self.first_of(some, lambda ..) -/
theorem first_read {X : Cx} {T : List (Addr × Str)} {params : Arguments} {body : Expr} {scope : Scope} {fr : List Str} {js : List Nat} {f1 c1 P1 Wp : Addr} {fd1 : FuncData} {iw : Nat} {σ : L2.St} {H : Hp} {Q : VK} {z : ArmP} {d : Disk} {l : List Ask} {G : Hp} {st : ArmS} {pool : List Nat} {g : Nat → Int}
    (F1 : FunC X.K "first_of" "Arm.first_of" s_first_of f1 fd1 c1) (AT1 : ArmT X.base X.mg T c1 P1 "Arm.first_of") (mb_min : X.mg "min" = none) (h0 : σ[0]? = some (some (.ref z.p))) (hw : σ[iw]? = some (some (.ref Wp))) (hA : ArmH X.K z d l G H st) (AC : ArmC X.K z.C) (hT : Tabs T H)
    (hW : H Wp = some (.lst ((nints pool).map V.int))) (hne : pool ≠ []) (hlt : ∀ n ∈ pool, n < l.length)
    (KF : ∀ (b2 : Heap) (fl c' : Addr) (H3 : Hp), (∀ b o, X.base.get? b = some o → b2.get? b = some o) → LamB b2 fl (lamF X params scope c') params body fr (js.map (slotAt σ)) → ExtN H H3 → H3 c' = some (CodeO c' (X.env.qual ++ "<lambda>")) →
      KeyFn X.prog X.w X.K X.mg b2 2 fl (nin pool) (ExtN H3) (ansI fun n => g n.toNat))
    (q : ∀ H', ExtN H H' → Tabs T H' → Q (.int ((pick (key3 l g) pool : Nat) : Int)) H') : tMethL X T params body scope fr js 5 z.C f1 fd1 ["self", "some", "key"] "first_of" (tVar 0) (tVar iw) σ H Q :=
  ⟨_, h0, z.p, z.dx, _, rfl, hA.ins, rfl, _, hw, hT, fun c' H3 eN T3 hc' => ⟨fun fl => sp_first_of X.K T z d l G st pool g H3 fl, fun b2 fl up _ _ B => ok_first_of F1 (AT1.up up) (KF b2 fl c' H3 up B eN hc') mb_min,
    fun fl => ⟨Wp, rfl, rfl, hA.keep eN, AC, eN _ _ hW (fun ps z => by cases z), hne, hlt, T3, fun H' e t => q H' (eN.trans e) t⟩⟩⟩
section
variable {P : Program} {w : World} {K : PySem.W.Frag} {mg : Str → Option Value} {base : Heap}
theorem ok_swept {f cs Ps f1 c1 P1 f2 : Addr} {fd fd1 fd2 : FuncData} {T : List (Addr × Str)} {C : Addr} (F : FunC K "swept" "Arm.swept" s_swept f fd cs) (AT : ArmT base mg T cs Ps "Arm.swept")
    (F1 : FunC K "first_of" "Arm.first_of" s_first_of f1 fd1 c1) (AT1 : ArmT base mg T c1 P1 "Arm.first_of") (M_first_of : ∀ C, ArmC K C → Mt K C "first_of" f1 fd1 ["self", "some", "key"])
    (G_far0 : ∀ base : Heap, FnOk P w K mg base CX0 1 f2 fd2 ["self", "number"] (sp_far K)) (M_far0 : ∀ C, ArmC K C → Mt K C "far" f2 fd2 ["self", "number"])
    (mb_min : mg "min" = none) (mb_abs : mg "abs" = none) (mb_int : mg "int" = none) : FnOk P w K mg base CX0 6 f fd ["self", "some"] (sp_swept K T) := by
  refine F.ok sc_swept (fun vs H Q E h => ?_) (fun A outer s H vs Q E hr h => ?_)
  · obtain ⟨z, d, l, G, st, pool, W, rfl, _⟩ := h
    rfl
  · obtain ⟨z, d, l, G, st, pool, W, rfl, hA, AC, h40, hp40, hW, hne, hlt, hT, q⟩ := h
    have nd := sc_swept.nd
    have M_far := M_far0 _ AC
    have M_first_of := M_first_of _ AC
    have G_far := G_far0 base
    have hr_far : Room 1 _ := hr.mono (by decide)
    refine ⟨_, (pss_cons (ps_setLc (i := 2) (own := [("number", 3)]) (g := (gName 3)) rfl nd rfl rfl (sw_true rfl rfl rfl (by decide +kernel)) (pi_list (pv 1)) (blkOk_by (own := [("number", 3)]) (N := ["self", "some", "ahead", "number"]) (sc := defScope s_swept) (by decide +kernel)) (fun _ _ _ _ _ => (pg_name (i := 3) nd rfl (.inl rfl))) (fun _ _ _ _ _ => (pts_one (pt_cmpR op_ge (pe_op op_mul (pe_meth (pv 0) AC.cl M_far.m G_far hr_far M_far.b .nil pass0 (pa_cons (pv 3) pa_nil)) (pe_op op_sub (pe_op op_mul pe_int (pe_callTy call_int1 (by rfl) mb_int (by decide +kernel) (pa_cons (pe_fldK (K := K) (pv 0)) pa_nil))) pe_int)) pe_int (nomark _)))) (fun _ _ _ _ _ => (pv 3)))
      (pss_cons (ps_if (pt_cmpR (op_eqD hr.units) (pv 2) (pe_lst pa_nil) (nomark _)) (pss_cons (ps_fld (pv 0) (pe_not (pe_fld (pv 0) rfl)) rfl)
      (pss_one (ps_set (i := 2) nd rfl (.inl rfl) (pv 1)))) pss_nil)
      (pss_one (ps_ret (pe_methL (T := T) (fr := ["self"]) (js := [0]) (lamC_by (defScope s_swept) rfl AT.tb rfl AT.mem AT.one rfl (fun _ => rfl) (by decide +kernel) rfl) (pv 0) (pv 2) AC.cl M_first_of.m hr M_first_of.b))))), ?_⟩
    have hlenW : ((nints pool).map V.int).length = pool.length := by rw [List.length_map, nints_len]
    refine ⟨_, rfl, W, rfl, ⟨_, SqL.of hW⟩, fun D hD => ?_⟩
    have s1 := same_new (o := .lst []) hD
    refine lc_list (K := K) (a := W) (xs := (nints pool).map V.int) (fun i H' => Same H H' ∧ H' D = some (.lst ((nints ((pool.take i).filter fun n => decide (0 ≤ (trk l n - st.here) * (2 * b1 st.up - 1)))).map V.int))) ⟨s1, upd_same⟩ (fun i H' _ ⟨s, _⟩ => SqL.of (s _ _ hW)) ?_ ?_
    · rintro i x H' hi ⟨s2, eD⟩
      obtain ⟨n, hn, rfl⟩ := nints_at hi
      have hA2 := hA.same s2
      refine ⟨rfl, _, rfl, z.p, z.dx, _, rfl, hA2.ins, rfl, _, rfl, z, d, l, G, st, n, rfl, hA2, AC, hlt n (List.mem_of_getElem? hn), ?_⟩
      refine ⟨_, rfl, z.p, z.C, z.dx, _, _, rfl, hA2.ins, AC.cl, AC.up, rfl, .inr ⟨_, rfl, ?_⟩⟩
      refine ⟨_, _, rfl, rfl, .inl ⟨by decide, by decide⟩, _, _, rfl, rfl, _, _, rfl, rfl, .inr ⟨?_, ?_⟩, _, _, rfl, rfl, _, rfl, ?_⟩
      · split <;> decide
      · split <;> decide
      · have hb : (if st.up = true then (1 : Int) else 0) = b1 st.up := rfl
        rw [hb]
        refine if2d (fun hc => ⟨_, rfl, _, eD, small1000 (Nat.le_trans nints_filter_len (by omega)), same_upd s2 hD, ?_⟩) (fun hc => ⟨s2, ?_⟩)
        · rw [upd_same, filter_step hn, if_pos (decide_eq_true hc)]
          unfold nints
          rw [List.map_append, List.map_append]
          rfl
        · rw [eD, filter_step hn, if_neg (by rw [decide_eq_false hc]; exact Bool.false_ne_true), List.append_nil]
    · rintro H' ⟨s2, eD⟩
      rw [hlenW, List.take_of_length_le (Nat.le_refl _)] at eD
      have eD : H' D = some (.lst ((nints (aheadU l st pool)).map V.int)) := eD
      refine ⟨_, rfl, Nat.zero_le _, fun e he => ?_⟩
      have s3 := same_new (o := .lst []) he
      have s23 := s2.trans s3
      refine ⟨.list ((nints (aheadU l st pool)).map PyData.int), .list [], dp_ints_of (SqL.of (s3 _ _ eD)), .lst (SqL.of upd_same) .nil, shaped_ints _, rfl, _, rfl, ?_⟩
      rw [eqv_nil]
      refine if2d (fun hz => ?_) (fun hz => ?_)
      · have hz' : aheadU l st pool = [] := List.map_eq_nil_iff.mp hz
        have hA3 := hA.same s23
        refine ⟨_, rfl, z.p, z.C, z.dx, _, _, rfl, hA3.ins, AC.cl, AC.up, rfl, _, rfl, _, rfl, z.p, z.C, z.dx, _, rfl, hA3.ins, AC.cl, AC.up, (by show (6 : Nat) < 1000; decide), ?_⟩
        have hA5 := hA3.turn (s' := { st with up := !st.up }) rfl
        rw [put_up]
        have nWp : W ≠ z.p := ne_of (s23 _ _ hW) hA3.ins (by intro q; cases q)
        have hW5 : upd (upd H' e (.lst [])) z.p (.ins z.C z.dx (flds z { st with up := !st.up })) W = some (.lst ((nints pool).map V.int)) := by rw [upd_ne nWp]; exact s23 _ _ hW
        have hT5 : Tabs T (upd (upd H' e (.lst [])) z.p (.ins z.C z.dx (flds z { st with up := !st.up }))) := fun t ht => by
          obtain ⟨ps, t1, t2, t3⟩ := (hT.ext s23) t ht
          have up : ∀ b o, (upd H' e (.lst [])) b = some o → (∀ C dx fs, o ≠ .ins C dx fs) → upd (upd H' e (.lst [])) z.p (.ins z.C z.dx (flds z { st with up := !st.up })) b = some o := fun b o h n => by
            rw [upd_ne fun q => n _ _ _ (Option.some.inj (h.symm.trans (by rw [q]; exact hA3.ins)))]
            exact h
          exact ⟨ps, up _ _ t1 (by intro _ _ _ q; cases q), t2, fun pos cv hc => let ⟨c0, e1, e2⟩ := t3 pos cv hc; ⟨c0, e1, up _ _ e2 (by intro _ _ _ q; cases q)⟩⟩
        have kp5 : KeepP z H (upd (upd H' e (.lst [])) z.p (.ins z.C z.dx (flds z { st with up := !st.up }))) := fun b o n h _ => by
          rw [upd_ne n]
          exact s23 _ _ h
        revert hA5 hW5 hT5 kp5
        generalize upd (upd H' e (.lst [])) z.p (.ins z.C z.dx (flds z { st with up := !st.up })) = H5
        intro hA5 hW5 hT5 kp5
        refine ⟨_, rfl, ?_⟩
        refine first_read (g := farK l st) F1 AT1 mb_min rfl rfl hA5 AC hT5 hW5 hne hlt (fun b2 fl c' H3 up B eN hc' => ?_) (fun H' e t => ?_)
        · refine keyFn_lam (k := 1) (x := "number") (N := ["number", "self"]) (fr := ["self"]) (nscope_by (by kernel_rfl)) B (fun _ _ _ => rfl) (fun H E' => E' _ _ hc' codeO_ne) (fun b3 A3 outer3 s3 H4 n up3 hr3 E4 hn => ?_)
          obtain ⟨m, hm, rfl⟩ := nin_nat hn
          have hA4 := hA5.keep (eN.trans E4)
          have hr_far : Room 1 _ := hr3
          have G_far := G_far0 b3
          refine ⟨_, pe_callB call_abs (by rfl) mb_abs (by decide +kernel) (pa_cons (pe_meth (pv 1) AC.cl M_far.m G_far hr_far M_far.b .nil pass0 (pa_cons (pv 0) pa_nil)) pa_nil), ?_⟩
          exact ⟨_, rfl, z.p, z.dx, _, rfl, hA4.ins, rfl, _, rfl, z, d, l, G, _, m, rfl, hA4, AC, hlt m hm, _, rfl, rfl, rfl⟩
        · have e1 : sweptN l st pool = pick (key3 l (farK l st)) pool := by unfold sweptN; rw [if_pos hz']
          have e2 : sweptU l st pool = !st.up := by unfold sweptU; rw [if_pos hz']
          rw [← e1]
          refine q H' (kp5.trans (.of e)) t ?_
          rw [e2]
          exact hA5.keep e
      · have hz' : aheadU l st pool ≠ [] := fun e => hz (by rw [e]; rfl)
        have hA3 := hA.same s23
        have hla : ∀ n ∈ aheadU l st pool, n < l.length := fun n hn => hlt n (List.mem_filter.mp hn).1
        refine first_read (g := farK l st) F1 AT1 mb_min rfl rfl hA3 AC (hT.ext s23) (s3 _ _ eD) hz' hla (fun b2 fl c' H3 up B eN hc' => ?_) (fun H' e t => ?_)
        · refine keyFn_lam (k := 1) (x := "number") (N := ["number", "self"]) (fr := ["self"]) (nscope_by (by kernel_rfl)) B (fun _ _ _ => rfl) (fun H E' => E' _ _ hc' codeO_ne) (fun b3 A3 outer3 s3 H4 n up3 hr3 E4 hn => ?_)
          obtain ⟨m, hm, rfl⟩ := nin_nat hn
          have hA4 := hA3.keep (eN.trans E4)
          have hr_far : Room 1 _ := hr3
          have G_far := G_far0 b3
          refine ⟨_, pe_callB call_abs (by rfl) mb_abs (by decide +kernel) (pa_cons (pe_meth (pv 1) AC.cl M_far.m G_far hr_far M_far.b .nil pass0 (pa_cons (pv 0) pa_nil)) pa_nil), ?_⟩
          exact ⟨_, rfl, z.p, z.dx, _, rfl, hA4.ins, rfl, _, rfl, z, d, l, G, st, m, rfl, hA4, AC, hla m hm, _, rfl, rfl, rfl⟩
        · have e1 : sweptN l st pool = pick (key3 l (farK l st)) (aheadU l st pool) := by unfold sweptN; rw [if_neg hz']
          have e2 : sweptU l st pool = st.up := by unfold sweptU; rw [if_neg hz']
          rw [← e1]
          refine q H' (.of ((ExtN.of s23).trans e)) t ?_
          rw [e2]
          exact hA3.keep e
end
end Ag

namespace Ag
open PySem PySem.Spec PyProof.Rows L2
/-! ### looped, chosen -/
open LamX NdefX
/-- the reading of self.first_of(e, lambda ..), behind e -/
theorem first_inner {X : Cx} {T : List (Addr × Str)} {params : Arguments} {body : Expr} {scope : Scope} {fr : List Str} {js : List Nat} {f1 c1 P1 Wp : Addr} {fd1 : FuncData} {σ : L2.St} {H : Hp} {Q : VK} {z : ArmP} {d : Disk} {l : List Ask} {G : Hp} {st : ArmS} {pool : List Nat} {g : Nat → Int}
    (F1 : FunC X.K "first_of" "Arm.first_of" s_first_of f1 fd1 c1) (AT1 : ArmT X.base X.mg T c1 P1 "Arm.first_of") (mb_min : X.mg "min" = none) (hA : ArmH X.K z d l G H st) (AC : ArmC X.K z.C) (hT : Tabs T H)
    (hW : H Wp = some (.lst ((nints pool).map V.int))) (hne : pool ≠ []) (hlt : ∀ n ∈ pool, n < l.length)
    (KF : ∀ (b2 : Heap) (fl c' : Addr) (H3 : Hp), (∀ b o, X.base.get? b = some o → b2.get? b = some o) → LamB b2 fl (lamF X params scope c') params body fr (js.map (slotAt σ)) → ExtN H H3 → H3 c' = some (CodeO c' (X.env.qual ++ "<lambda>")) →
      KeyFn X.prog X.w X.K X.mg b2 2 fl (nin pool) (ExtN H3) (ansI fun n => g n.toNat))
    (q : ∀ H', ExtN H H' → Tabs T H' → Q (.int ((pick (key3 l g) pool : Nat) : Int)) H') : Tabs T H ∧ ∀ (c' : Addr) (H3 : Hp), ExtN H H3 → Tabs T H3 → H3 c' = some (CodeO c' (X.env.qual ++ "<lambda>")) → ∃ sp : Addr → Sp,
    (∀ (b2 : Heap) (f : Addr), (∀ b o, X.base.get? b = some o → b2.get? b = some o) → X.K.In b2 → b2.Ns mainGlobals X.mg → LamB b2 f (lamF X params scope c') params body fr (js.map (slotAt σ)) → FnOk X.prog X.w X.K X.mg b2 CX0 5 f1 fd1 ["self", "some", "key"] (sp f)) ∧
    ∀ f, sp f [.ref z.p, .ref Wp, .ref f] H3 Q E0 :=
  ⟨hT, fun c' H3 eN T3 hc' => ⟨fun fl => sp_first_of X.K T z d l G st pool g H3 fl, fun b2 fl up _ _ B => ok_first_of F1 (AT1.up up) (KF b2 fl c' H3 up B eN hc') mb_min,
    fun fl => ⟨Wp, rfl, rfl, hA.keep eN, AC, eN _ _ hW (fun ps z => by cases z), hne, hlt, T3, fun H' e t => q H' (eN.trans e) t⟩⟩⟩
abbrev s_looped : Stmt := mth 5
def sp_looped (K : PySem.W.Frag) (T : List (Addr × Str)) : Sp := fun vs H Q _ => ∃ (z : ArmP) (d : Disk) (l : List Ask) (G : Hp) (st : ArmS) (pool : List Nat) (W : Addr), vs = [.ref z.p, .ref W] ∧ ArmH K z d l G H st ∧ ArmC K z.C ∧ l.length ≤ 40 ∧ pool.length ≤ 40 ∧
  H W = some (.lst ((nints pool).map V.int)) ∧ pool ≠ [] ∧ (∀ n ∈ pool, n < l.length) ∧ Tabs T H ∧ ∀ H', ExtN H H' → Tabs T H' → Q (.int ((loopedN l st pool : Nat) : Int)) H'
theorem sc_looped : FnScope ["self", "some", "ahead", "number"] ["self", "some"] (defScope s_looped) := ⟨rfl, rfl, rfl, by decide +kernel, rfl, by decide +kernel, by decide +kernel⟩
section
variable {P : Program} {w : World} {K : PySem.W.Frag} {mg : Str → Option Value} {base : Heap}
theorem ok_looped {f cs Ps f1 c1 P1 f2 : Addr} {fd fd1 fd2 : FuncData} {T : List (Addr × Str)} (F : FunC K "looped" "Arm.looped" s_looped f fd cs) (AT : ArmT base mg T cs Ps "Arm.looped")
    (F1 : FunC K "first_of" "Arm.first_of" s_first_of f1 fd1 c1) (AT1 : ArmT base mg T c1 P1 "Arm.first_of") (M_first_of : ∀ C, ArmC K C → Mt K C "first_of" f1 fd1 ["self", "some", "key"])
    (G_far0 : ∀ base : Heap, FnOk P w K mg base CX0 1 f2 fd2 ["self", "number"] (sp_far K)) (M_far0 : ∀ C, ArmC K C → Mt K C "far" f2 fd2 ["self", "number"])
    (mb_min : mg "min" = none) : FnOk P w K mg base CX0 6 f fd ["self", "some"] (sp_looped K T) := by
  refine F.ok sc_looped (fun vs H Q E h => ?_) (fun A outer s H vs Q E hr h => ?_)
  · obtain ⟨z, d, l, G, st, pool, W, rfl, _⟩ := h
    rfl
  · obtain ⟨z, d, l, G, st, pool, W, rfl, hA, AC, h40, hp40, hW, hne, hlt, hT, q⟩ := h
    have nd := sc_looped.nd
    have M_far := M_far0 _ AC
    have M_first_of := M_first_of _ AC
    have G_far := G_far0 base
    have hr_far : Room 1 _ := hr.mono (by decide)
    refine ⟨_, (pss_cons (ps_setLc (i := 2) (own := [("number", 3)]) (g := (gName 3)) rfl nd rfl rfl (sw_true rfl rfl rfl (by decide +kernel)) (pi_list (pv 1)) (blkOk_by (own := [("number", 3)]) (N := ["self", "some", "ahead", "number"]) (sc := defScope s_looped) (by decide +kernel)) (fun _ _ _ _ _ => (pg_name (i := 3) nd rfl (.inl rfl))) (fun _ _ _ _ _ => (pts_one (pt_cmpR op_ge (pe_meth (pv 0) AC.cl M_far.m G_far hr_far M_far.b .nil pass0 (pa_cons (pv 3) pa_nil)) pe_int (nomark _)))) (fun _ _ _ _ _ => (pv 3)))
      (pss_one (ps_ret (pe_methL (T := T) (fr := ["self"]) (js := [0]) (lamC_by (defScope s_looped) rfl AT.tb rfl AT.mem AT.one rfl (fun _ => rfl) (by decide +kernel) rfl) (pv 0) (pe_ifExp (pt_cmpR (op_neD hr.units) (pv 2) (pe_lst pa_nil) (nomark _)) (pv 2) (pv 1)) AC.cl M_first_of.m hr M_first_of.b)))), ?_⟩
    have hlenW : ((nints pool).map V.int).length = pool.length := by rw [List.length_map, nints_len]
    refine ⟨_, rfl, W, rfl, ⟨_, SqL.of hW⟩, fun D hD => ?_⟩
    have s1 := same_new (o := .lst []) hD
    refine lc_list (K := K) (a := W) (xs := (nints pool).map V.int) (fun i H' => Same H H' ∧ H' D = some (.lst ((nints ((pool.take i).filter fun n => decide (0 ≤ trk l n - st.here))).map V.int))) ⟨s1, upd_same⟩ (fun i H' _ ⟨s, _⟩ => SqL.of (s _ _ hW)) ?_ ?_
    · rintro i x H' hi ⟨s2, eD⟩
      obtain ⟨n, hn, rfl⟩ := nints_at hi
      have hA2 := hA.same s2
      refine ⟨rfl, _, rfl, z.p, z.dx, _, rfl, hA2.ins, rfl, _, rfl, z, d, l, G, st, n, rfl, hA2, AC, hlt n (List.mem_of_getElem? hn), ?_⟩
      refine ⟨_, _, rfl, rfl, _, rfl, ?_⟩
      refine if2d (fun hc => ⟨_, rfl, _, eD, small1000 (Nat.le_trans nints_filter_len (by omega)), same_upd s2 hD, ?_⟩) (fun hc => ⟨s2, ?_⟩)
      · rw [upd_same, filter_step hn, if_pos (decide_eq_true hc)]
        unfold nints
        rw [List.map_append, List.map_append]
        rfl
      · rw [eD, filter_step hn, if_neg (by rw [decide_eq_false hc]; exact Bool.false_ne_true), List.append_nil]
    · rintro H' ⟨s2, eD⟩
      rw [hlenW, List.take_of_length_le (Nat.le_refl _)] at eD
      have eD : H' D = some (.lst ((nints (aheadL l st pool)).map V.int)) := eD
      have hA2 := hA.same s2
      refine ⟨_, rfl, z.p, z.dx, _, rfl, hA2.ins, rfl, ?_⟩
      refine ⟨_, rfl, Nat.zero_le _, fun e he => ?_⟩
      have s3 := same_new (o := .lst []) he
      have s23 := s2.trans s3
      have hA3 := hA.same s23
      refine ⟨.list ((nints (aheadL l st pool)).map PyData.int), .list [], dp_ints_of (SqL.of (s3 _ _ eD)), .lst (SqL.of upd_same) .nil, shaped_ints _, rfl, _, rfl, ?_⟩
      rw [eqv_nil]
      by_cases hz : aheadL l st pool = []
      · have e1 : loopedN l st pool = pick (key3 l (trk l)) pool := by unfold loopedN; rw [if_pos hz]
        rw [hz]
        refine iteF ⟨_, rfl, ?_⟩
        refine first_inner (g := trk l) F1 AT1 mb_min hA3 AC (hT.ext s23) (s23 _ _ hW) hne hlt (fun b2 fl c' H3 up B eN hc' => ?_) (fun H' e t => by rw [← e1]; exact q H' ((ExtN.of s23).trans e) t)
        refine keyFn_lam (k := 1) (x := "number") (N := ["number", "self"]) (fr := ["self"]) (nscope_by (by kernel_rfl)) B (fun _ _ _ => rfl) (fun H E' => E' _ _ hc' codeO_ne) (fun b3 A3 outer3 s3 H4 n up3 hr3 E4 hn => ?_)
        obtain ⟨m, hm, rfl⟩ := nin_nat hn
        have hA4 := hA3.keep (eN.trans E4)
        obtain ⟨xs, qa, hL, hlen, hq, hTq, _⟩ := hA4.ask (hlt m hm)
        refine ⟨_, pe_ix (r := rIxT K) ix_tup (pe_ix (r := rIxL K) ix_list (pe_fld (pv 1) rfl) (pv 0) (fun _ _ => rfl)) pe_int (fun _ _ => rfl), ?_⟩
        refine ⟨_, rfl, z.p, z.C, z.dx, _, _, rfl, hA4.ins, AC.cl, AC.asks, rfl, _, rfl, z.b, xs, _, _, rfl, rfl, hL, atI_nat hq, ?_⟩
        exact ⟨qa, _, 1, _, rfl, rfl, hTq, atI_nat (j := 1) rfl, rfl, rfl⟩
      · have e1 : loopedN l st pool = pick (key3 l (trk l)) (aheadL l st pool) := by unfold loopedN; rw [if_neg hz]
        have hz' : nints (aheadL l st pool) ≠ [] := fun q => hz (List.map_eq_nil_iff.mp q)
        rw [decide_eq_false hz']
        have hla : ∀ n ∈ aheadL l st pool, n < l.length := fun n hn => hlt n (List.mem_filter.mp hn).1
        refine iteT ⟨_, rfl, ?_⟩
        refine first_inner (g := trk l) F1 AT1 mb_min hA3 AC (hT.ext s23) (s3 _ _ eD) hz hla (fun b2 fl c' H3 up B eN hc' => ?_) (fun H' e t => by rw [← e1]; exact q H' ((ExtN.of s23).trans e) t)
        refine keyFn_lam (k := 1) (x := "number") (N := ["number", "self"]) (fr := ["self"]) (nscope_by (by kernel_rfl)) B (fun _ _ _ => rfl) (fun H E' => E' _ _ hc' codeO_ne) (fun b3 A3 outer3 s3 H4 n up3 hr3 E4 hn => ?_)
        obtain ⟨m, hm, rfl⟩ := nin_nat hn
        have hA4 := hA3.keep (eN.trans E4)
        obtain ⟨xs, qa, hL, hlen, hq, hTq, _⟩ := hA4.ask (hla m hm)
        refine ⟨_, pe_ix (r := rIxT K) ix_tup (pe_ix (r := rIxL K) ix_list (pe_fld (pv 1) rfl) (pv 0) (fun _ _ => rfl)) pe_int (fun _ _ => rfl), ?_⟩
        refine ⟨_, rfl, z.p, z.C, z.dx, _, _, rfl, hA4.ins, AC.cl, AC.asks, rfl, _, rfl, z.b, xs, _, _, rfl, rfl, hL, atI_nat hq, ?_⟩
        exact ⟨qa, _, 1, _, rfl, rfl, hTq, atI_nat (j := 1) rfl, rfl, rfl⟩
end
/-! ### chosen -/
abbrev s_chosen : Stmt := mth 6
def sp_chosen (K : PySem.W.Frag) (T : List (Addr × Str)) : Sp := fun vs H Q _ => ∃ (z : ArmP) (d : Disk) (l : List Ask) (G : Hp) (st : ArmS) (pool : List Nat) (W : Addr) (r : Rule), vs = [.ref z.p, .str (ruleS r), .ref W] ∧ ArmH K z d l G H st ∧ ArmC K z.C ∧ GoodDisk d ∧ l.length ≤ 40 ∧ pool.length ≤ 40 ∧
  H W = some (.lst ((nints pool).map V.int)) ∧ pool ≠ [] ∧ (∀ n ∈ pool, n < l.length) ∧ Tabs T H ∧ ∀ H', KeepP z H H' → Tabs T H' → ArmH K z d l G H' { st with up := choseU l st pool r } → Q (.int ((choseN d l st pool r : Nat) : Int)) H'
theorem sc_chosen : FnScope ["self", "rule", "some"] ["self", "rule", "some"] (defScope s_chosen) := ⟨rfl, rfl, rfl, by decide +kernel, rfl, by decide +kernel, by decide +kernel⟩
theorem str_ne {a b : Str} (h : a ≠ b) : ¬ V.str a = V.str b := fun e => h (V.str.inj e)
section
variable {P : Program} {w : World} {K : PySem.W.Frag} {mg : Str → Option Value} {base : Heap}
theorem ok_chosen {f cs Ps f1 c1 P1 f2 f3 f4 f5 : Addr} {fd fd1 fd2 fd3 fd4 fd5 : FuncData} {T : List (Addr × Str)} (F : FunC K "chosen" "Arm.chosen" s_chosen f fd cs) (AT : ArmT base mg T cs Ps "Arm.chosen")
    (F1 : FunC K "first_of" "Arm.first_of" s_first_of f1 fd1 c1) (AT1 : ArmT base mg T c1 P1 "Arm.first_of") (M_first_of : ∀ C, ArmC K C → Mt K C "first_of" f1 fd1 ["self", "some", "key"])
    (G_far0 : ∀ base : Heap, FnOk P w K mg base CX0 1 f2 fd2 ["self", "number"] (sp_far K)) (M_far0 : ∀ C, ArmC K C → Mt K C "far" f2 fd2 ["self", "number"])
    (G_swept : FnOk P w K mg base CX0 6 f3 fd3 ["self", "some"] (sp_swept K T)) (M_swept0 : ∀ C, ArmC K C → Mt K C "swept" f3 fd3 ["self", "some"])
    (G_looped : FnOk P w K mg base CX0 6 f4 fd4 ["self", "some"] (sp_looped K T)) (M_looped0 : ∀ C, ArmC K C → Mt K C "looped" f4 fd4 ["self", "some"])
    (G_served0 : ∀ base : Heap, FnOk P w K mg base CX0 1 f5 fd5 ["disk", "now", "here", "ask"] (sp_served K)) (C_served : Cal K mg "served" f5 fd5 ["disk", "now", "here", "ask"])
    (mb_min : mg "min" = none) (mb_abs : mg "abs" = none) : FnOk P w K mg base CX0 7 f fd ["self", "rule", "some"] (sp_chosen K T) := by
  refine F.ok sc_chosen (fun vs H Q E h => ?_) (fun A outer s H vs Q E hr h => ?_)
  · obtain ⟨z, d, l, G, st, pool, W, r, rfl, _⟩ := h
    rfl
  · obtain ⟨z, d, l, G, st, pool, W, r, rfl, hA, AC, gd, h40, hp40, hW, hne, hlt, hT, q⟩ := h
    have nd := sc_chosen.nd
    have M_far := M_far0 _ AC
    have M_first_of := M_first_of _ AC
    have M_swept := M_swept0 _ AC
    have M_looped := M_looped0 _ AC
    have hr_swept : Room 6 _ := hr
    have hr_looped : Room 6 _ := hr
    have hr5 : Room 5 _ := hr.mono (by decide)
    refine ⟨_, (pss_cons (ps_if (pt_cmpR op_eq (pv 1) pe_str (nomark _)) (pss_one (ps_ret (pe_methL (T := T) (fr := []) (js := []) (lamC_by (defScope s_chosen) rfl AT.tb rfl AT.mem AT.one rfl (fun _ => rfl) (by decide +kernel) rfl) (pv 0) (pv 2) AC.cl M_first_of.m hr5 M_first_of.b))) pss_nil)
      (pss_cons (ps_if (pt_cmpR op_eq (pv 1) pe_str (nomark _)) (pss_one (ps_ret (pe_methL (T := T) (fr := ["self"]) (js := [0]) (lamC_by (defScope s_chosen) rfl AT.tb rfl AT.mem AT.one rfl (fun _ => rfl) (by decide +kernel) rfl) (pv 0) (pv 2) AC.cl M_first_of.m hr5 M_first_of.b))) pss_nil)
      (pss_cons (ps_if (pt_cmpR op_eq (pv 1) pe_str (nomark _)) (pss_one (ps_ret (pe_methL (T := T) (fr := ["self"]) (js := [0]) (lamC_by (defScope s_chosen) rfl AT.tb rfl AT.mem AT.one rfl (fun _ => rfl) (by decide +kernel) rfl) (pv 0) (pv 2) AC.cl M_first_of.m hr5 M_first_of.b))) pss_nil)
      (pss_one (ps_ret (pe_ifExp (pt_cmpR op_eq (pv 1) pe_str (nomark _)) (pe_meth (pv 0) AC.cl M_swept.m G_swept hr_swept M_swept.b .nil pass0 (pa_cons (pv 2) pa_nil)) (pe_meth (pv 0) AC.cl M_looped.m G_looped hr_looped M_looped.b .nil pass0 (pa_cons (pv 2) pa_nil)))))))), ?_⟩
    have no : ∀ {a b : Str} {A B : Prop}, a ≠ b → B → if decide (V.str a = V.str b) = true then A else B := fun h b => ifd_f (str_ne h) b
    cases r with
    | first =>
      refine ⟨_, rfl, rfl, _, rfl, ifd_t rfl ?_⟩
      refine first_read (g := fun _ => 0) F1 AT1 mb_min rfl rfl hA AC hT hW hne hlt (fun b2 fl c' H3 up B eN hc' => ?_) (fun H' e t => q H' (.of e) t (hA.keep e))
      refine keyFn_lam (k := 1) (x := "number") (N := ["number"]) (fr := []) (nscope_by (by kernel_rfl)) B (fun _ _ _ => rfl) (fun H E' => E' _ _ hc' codeO_ne) (fun b3 A3 outer3 s3 H4 n up3 hr3 E4 hn => ?_)
      exact ⟨_, pe_int, rfl, rfl⟩
    | near =>
      refine ⟨_, rfl, rfl, _, rfl, no (by decide +kernel) ⟨_, rfl, rfl, _, rfl, ifd_t rfl ?_⟩⟩
      refine first_read (g := farK l st) F1 AT1 mb_min rfl rfl hA AC hT hW hne hlt (fun b2 fl c' H3 up B eN hc' => ?_) (fun H' e t => q H' (.of e) t (hA.keep e))
      refine keyFn_lam (k := 1) (x := "number") (N := ["number", "self"]) (fr := ["self"]) (nscope_by (by kernel_rfl)) B (fun _ _ _ => rfl) (fun H E' => E' _ _ hc' codeO_ne) (fun b3 A3 outer3 s3 H4 n up3 hr3 E4 hn => ?_)
      obtain ⟨m, hm, rfl⟩ := nin_nat hn
      have hA4 := hA.keep (eN.trans E4)
      have hr_far : Room 1 _ := hr3
      have G_far := G_far0 b3
      refine ⟨_, pe_callB call_abs (by rfl) mb_abs (by decide +kernel) (pa_cons (pe_meth (pv 1) AC.cl M_far.m G_far hr_far M_far.b .nil pass0 (pa_cons (pv 0) pa_nil)) pa_nil), ?_⟩
      exact ⟨_, rfl, z.p, z.dx, _, rfl, hA4.ins, rfl, _, rfl, z, d, l, G, _, m, rfl, hA4, AC, hlt m hm, _, rfl, rfl, rfl⟩
    | soon =>
      refine ⟨_, rfl, rfl, _, rfl, no (by decide +kernel) ⟨_, rfl, rfl, _, rfl, no (by decide +kernel) ⟨_, rfl, rfl, _, rfl, ifd_t rfl ?_⟩⟩⟩
      refine first_read (g := soonK d l st) F1 AT1 mb_min rfl rfl hA AC hT hW hne hlt (fun b2 fl c' H3 up B eN hc' => ?_) (fun H' e t => q H' (.of e) t (hA.keep e))
      refine keyFn_lam (k := 1) (x := "number") (N := ["number", "self"]) (fr := ["self"]) (nscope_by (by kernel_rfl)) B (fun _ _ _ => rfl) (fun H E' => E' _ _ hc' codeO_ne) (fun b3 A3 outer3 s3 H4 n up3 hr3 E4 hn => ?_)
      obtain ⟨m, hm, rfl⟩ := nin_nat hn
      have hA4 := hA.keep (eN.trans E4)
      obtain ⟨xs, qa, hL, hlen, hq, hTq, hdq⟩ := hA4.ask (hlt m hm)
      have hr_served : Room 1 _ := hr3
      have G_served := G_served0 b3
      refine ⟨_, pe_call G_served hr_served rfl C_served.m C_served.k C_served.b .nil pass0 (pa_cons (pe_fld (pv 1) rfl) (pa_cons (pe_fld (pv 1) rfl) (pa_cons (pe_fld (pv 1) rfl) (pa_cons (pe_ix (r := rIxL K) ix_list (pe_fld (pv 1) rfl) (pv 0) (fun _ _ => rfl)) pa_nil)))), ?_⟩
      refine ⟨_, rfl, z.p, z.C, z.dx, _, _, rfl, hA4.ins, AC.cl, AC.disk, rfl, _, rfl, z.p, z.C, z.dx, _, _, rfl, hA4.ins, AC.cl, AC.now, rfl, _, rfl, z.p, z.C, z.dx, _, _, rfl, hA4.ins, AC.cl, AC.here, rfl, _, rfl, z.p, z.C, z.dx, _, _, rfl, hA4.ins, AC.cl, AC.asks, rfl, _, rfl, z.b, xs, _, _, rfl, rfl, hL, atI_nat hq, ?_⟩
      exact ⟨_, _, d, _, _, l.getD m (0, 0, 0), rfl, dp_same hA4.sub hA4.dk, hdq, gd, rfl, rfl⟩
    | sweep =>
      refine ⟨_, rfl, rfl, _, rfl, no (by decide +kernel) ⟨_, rfl, rfl, _, rfl, no (by decide +kernel) ⟨_, rfl, rfl, _, rfl, no (by decide +kernel) ⟨_, rfl, rfl, _, rfl, ifd_t rfl ?_⟩⟩⟩⟩
      exact ⟨_, rfl, z.p, z.dx, _, rfl, hA.ins, rfl, _, rfl, z, d, l, G, st, pool, W, rfl, hA, AC, h40, hp40, hW, hne, hlt, hT, q⟩
    | loop =>
      refine ⟨_, rfl, rfl, _, rfl, no (by decide +kernel) ⟨_, rfl, rfl, _, rfl, no (by decide +kernel) ⟨_, rfl, rfl, _, rfl, no (by decide +kernel) ⟨_, rfl, rfl, _, rfl, no (by decide +kernel) ?_⟩⟩⟩⟩
      exact ⟨_, rfl, z.p, z.dx, _, rfl, hA.ins, rfl, _, rfl, z, d, l, G, st, pool, W, rfl, hA, AC, h40, hp40, hW, hne, hlt, hT, fun H' e t => q H' (.of e) t (hA.keep e)⟩
end
end Ag

namespace Ag
open PySem PySem.Spec PyProof.Rows L2
/-! ### waiting, serve -/
open LamX NdefX
abbrev s_waiting : Stmt := mth 1
def sp_waiting (K : PySem.W.Frag) : Sp := fun vs H Q _ => ∃ (z : ArmP) (d : Disk) (l : List Ask) (G : Hp) (st : ArmS), vs = [.ref z.p] ∧ ArmH K z d l G H st ∧ ArmC K z.C ∧ st.left.length ≤ 40 ∧ st.left ≠ [] ∧
  ∀ (H' : Hp) (W : Addr), SameBut z.p H H' → ArmH K z d l G H' (wake l st) → H' W = some (.lst ((nints (waitN l st)).map V.int)) → Q (.ref W) H'
theorem sc_waiting : FnScope ["self", "number"] ["self"] (defScope s_waiting) := ⟨rfl, rfl, rfl, by decide +kernel, rfl, by decide +kernel, by decide +kernel⟩
theorem come_read {K : PySem.W.Frag} {z : ArmP} {d : Disk} {l : List Ask} {G H : Hp} {st : ArmS} {Q : VK} (hA : ArmH K z d l G H st) (AC : ArmC K z.C) (h40 : st.left.length ≤ 40) (q : ∀ H' D, Same H H' → H' D = some (.lst ((nints (arrived l st.now st.left)).map V.int)) → Q (.ref D) H') :
    tLc (iList K (tFld K (tVar 0) (Str.ofString "left"))) (gName 1) (tTest (tOp (rI0 fun i j => V.bl (decide (i ≤ j))) (tOp (rIxT K) (tOp (rIxL K) (tFld K (tVar 0) (Str.ofString "asks")) (tVar 1)) (tC (V.int 0))) (tFld K (tVar 0) (Str.ofString "now")))) (tVar 1) [1] [some (.ref z.p), none] H Q := by
  have hlenL : ((nints st.left).map V.int).length = st.left.length := by rw [List.length_map, nints_len]
  refine ⟨_, rfl, z.p, z.C, z.dx, _, _, rfl, hA.ins, AC.cl, AC.left, rfl, z.Lf, rfl, ⟨_, SqL.of hA.lf⟩, fun D hD => ?_⟩
  have s1 := same_new (o := .lst []) hD
  refine lc_list (K := K) (a := z.Lf) (xs := (nints st.left).map V.int) (fun i H' => Same H H' ∧ H' D = some (.lst ((nints ((st.left.take i).filter fun n => decide (come l n ≤ st.now))).map V.int))) ⟨s1, upd_same⟩ (fun i H' _ ⟨s, _⟩ => SqL.of (s _ _ hA.lf)) ?_ ?_
  · rintro i x H' hi ⟨s2, eD⟩
    obtain ⟨n, hn, rfl⟩ := nints_at hi
    have hA2 := hA.same s2
    obtain ⟨xs, qa, hL, hlen, hq, hTq, _⟩ := hA2.ask (hA.lt n (List.mem_of_getElem? hn))
    refine ⟨rfl, _, rfl, z.p, z.C, z.dx, _, _, rfl, hA2.ins, AC.cl, AC.asks, rfl, _, rfl, z.b, xs, _, _, rfl, rfl, hL, atI_nat hq, qa, _, 0, _, rfl, rfl, hTq, atI_nat (j := 0) rfl, ?_⟩
    refine ⟨_, rfl, z.p, z.C, z.dx, _, _, rfl, hA2.ins, AC.cl, AC.now, rfl, _, _, rfl, rfl, _, rfl, ?_⟩
    refine if2d (fun hc => ⟨_, rfl, _, eD, small1000 (Nat.le_trans nints_filter_len (by omega)), same_upd s2 hD, ?_⟩) (fun hc => ⟨s2, ?_⟩)
    · rw [upd_same, filter_step hn, if_pos (decide_eq_true hc)]
      unfold nints
      rw [List.map_append, List.map_append]
      rfl
    · rw [eD, filter_step hn, if_neg (by rw [decide_eq_false hc]; exact Bool.false_ne_true), List.append_nil]
  · rintro H' ⟨s2, eD⟩
    rw [hlenL, List.take_of_length_le (Nat.le_refl _)] at eD
    exact q H' D s2 eD
section
variable {P : Program} {w : World} {K : PySem.W.Frag} {mg : Str → Option Value} {base : Heap}
theorem ok_waiting {f : Addr} {fd : FuncData} (F : Fun K "waiting" "Arm.waiting" s_waiting f fd) (mb_min : mg "min" = none) : FnOk P w K mg base CX0 1 f fd ["self"] (sp_waiting K) := by
  refine F.ok sc_waiting (fun vs H Q E h => ?_) (fun cdv A outer s H vs Q E hr h => ?_)
  · obtain ⟨z, d, l, G, st, rfl, _⟩ := h
    rfl
  · obtain ⟨z, d, l, G, st, rfl, hA, AC, h40, hne, q⟩ := h
    have nd := sc_waiting.nd
    refine ⟨_, (pss_cons (ps_if (pt_cmpR (op_eqD hr.units) (pe_lc (own := [("number", 1)]) (g := (gName 1)) rfl nd (pi_list (pe_fld (pv 0) rfl)) (blkOk_by (own := [("number", 1)]) (N := ["self", "number"]) (sc := defScope s_waiting) (by decide +kernel)) (fun _ _ _ _ _ => (pg_name (i := 1) nd rfl (.inl rfl))) (fun _ _ _ _ _ => (pts_one (pt_cmpR op_le (pe_ix (r := rIxT K) ix_tup (pe_ix (r := rIxL K) ix_list (pe_fldK (K := K) (pv 0)) (pv 1) (fun _ _ => rfl)) pe_int (fun _ _ => rfl)) (pe_fldK (K := K) (pv 0)) (nomark _)))) (fun _ _ _ _ _ => (pv 1))) (pe_lst pa_nil) (nomark _)) (pss_one (ps_fld (pv 0) (pe_callB (cr_min rfl) (by rfl) mb_min (by decide +kernel) (pa_cons (pe_lc (own := [("number", 1)]) (g := (gName 1)) (tt := tYes) rfl nd (pi_list (pe_fld (pv 0) rfl)) (blkOk_by (own := [("number", 1)]) (N := ["self", "number"]) (sc := defScope s_waiting) (by decide +kernel)) (fun _ _ _ _ _ => (pg_name (i := 1) nd rfl (.inl rfl))) (fun _ _ _ _ _ => pts_nil) (fun _ _ _ _ _ => (pe_ix (r := rIxT K) ix_tup (pe_ix (r := rIxL K) ix_list (pe_fldK (K := K) (pv 0)) (pv 1) (fun _ _ => rfl)) pe_int (fun _ _ => rfl)))) pa_nil)) rfl)) pss_nil)
      (pss_one (ps_ret (pe_lc (own := [("number", 1)]) (g := (gName 1)) rfl nd (pi_list (pe_fld (pv 0) rfl)) (blkOk_by (own := [("number", 1)]) (N := ["self", "number"]) (sc := defScope s_waiting) (by decide +kernel)) (fun _ _ _ _ _ => (pg_name (i := 1) nd rfl (.inl rfl))) (fun _ _ _ _ _ => (pts_one (pt_cmpR op_le (pe_ix (r := rIxT K) ix_tup (pe_ix (r := rIxL K) ix_list (pe_fldK (K := K) (pv 0)) (pv 1) (fun _ _ => rfl)) pe_int (fun _ _ => rfl)) (pe_fldK (K := K) (pv 0)) (nomark _)))) (fun _ _ _ _ _ => (pv 1)))))), ?_⟩
    refine rd_seq (rd_if (rd_test (rd_op (come_read hA AC h40 fun H' D s2 eD => ?_))))
    refine ⟨Nat.zero_le _, fun e he => ?_⟩
    have s3 := same_new (o := .lst []) he
    have s23 := s2.trans s3
    have hA3 := hA.same s23
    refine ⟨.list ((nints (arrived l st.now st.left)).map PyData.int), .list [], dp_ints_of (SqL.of (s3 _ _ eD)), .lst (SqL.of upd_same) .nil, shaped_ints _, rfl, _, rfl, ?_⟩
    rw [eqv_nil]
    revert hA3 s23
    generalize upd H' e (.lst []) = H3
    intro s23 hA3
    refine if2d (fun hz => ?_) (fun hz => ?_)
    · have hz' : arrived l st.now st.left = [] := List.map_eq_nil_iff.mp hz
      refine ⟨_, rfl, z.p, z.C, z.dx, _, _, rfl, hA3.ins, AC.cl, AC.left, rfl, z.Lf, rfl, ⟨_, SqL.of hA3.lf⟩, fun D2 hD2 => ?_⟩
      have t1 := same_new (o := .lst []) hD2
      have hlenL : ((nints st.left).map V.int).length = st.left.length := by rw [List.length_map, nints_len]
      refine lc_list (K := K) (a := z.Lf) (xs := (nints st.left).map V.int) (fun i H' => Same H3 H' ∧ H' D2 = some (.lst (((st.left.take i).map (come l)).map V.int))) ⟨t1, upd_same⟩ (fun i H' _ ⟨s, _⟩ => SqL.of (s _ _ hA3.lf)) ?_ ?_
      · rintro i x H4 hi ⟨t2, eD2⟩
        obtain ⟨n, hn, rfl⟩ := nints_at hi
        have hA4 := hA3.same t2
        obtain ⟨xs, qa, hL, hlen, hq, hTq, _⟩ := hA4.ask (hA.lt n (List.mem_of_getElem? hn))
        refine ⟨rfl, _, rfl, z.p, z.C, z.dx, _, _, rfl, hA4.ins, AC.cl, AC.asks, rfl, _, rfl, z.b, xs, _, _, rfl, rfl, hL, atI_nat hq, qa, _, 0, _, rfl, rfl, hTq, atI_nat (j := 0) rfl, ?_⟩
        refine ⟨_, eD2, ?_, same_upd t2 hD2, ?_⟩
        · rw [List.length_map, List.length_map, List.length_take]
          exact small1000 (by omega)
        · rw [upd_same, take_more hn, List.map_append, List.map_append]
          rfl
      · rintro H4 ⟨t2, eD2⟩
        rw [hlenL, List.take_of_length_le (Nat.le_refl _)] at eD2
        have hA4 := hA3.same t2
        have hpos : 0 < (st.left.map (come l)).length := by rw [List.length_map]; exact List.length_pos_iff.mpr hne
        refine ⟨D2, st.left.map (come l), rfl, SqL.of eD2, hpos, fun m hm hle => ?_⟩
        have em : m = wakeNow l st := by
          unfold wakeNow
          rw [if_pos hz']
          exact leastI_is hm hle
        subst em
        refine ⟨_, rfl, z.p, z.C, z.dx, _, rfl, hA4.ins, AC.cl, AC.now, (by show (6 : Nat) < 1000; decide), ?_⟩
        rw [put_now]
        have hA5 : ArmH K z d l G (upd H4 z.p (.ins z.C z.dx (flds z (wake l st)))) (wake l st) := hA4.turn rfl
        have sb5 : SameBut z.p H (upd H4 z.p (.ins z.C z.dx (flds z (wake l st)))) := sb_upd (sb_of (s23.trans t2))
        refine rd_ret (come_read (st := wake l st) hA5 AC h40 fun H' D3 s5 eD3 => ?_)
        exact q H' D3 (sb_trans sb5 (sb_of s5)) (hA5.same s5) eD3
    · have hz' : arrived l st.now st.left ≠ [] := fun e => hz (by rw [e]; rfl)
      have ew : wake l st = st := by
        unfold wake wakeNow
        rw [if_neg hz']
      refine rd_next (rd_ret (come_read hA3 AC h40 fun H' D3 s5 eD3 => ?_))
      refine q H' D3 (sb_of (s23.trans s5)) ?_ ?_
      · rw [ew]
        exact hA3.same s5
      · have : waitN l st = arrived l st.now st.left := by
          unfold waitN wakeNow
          rw [if_neg hz']
        rw [this]
        exact eD3
end
end Ag

namespace Ag
open PySem PySem.Spec PyProof.Rows L2
/-! ### serve -/
open LamX NdefX
def KeepA (z : ArmP) (H H' : Hp) : Prop := ∀ b o, b ≠ z.p → b ≠ z.Lf → H b = some o → (∀ ps, o ≠ .tbl ps) → H' b = some o
theorem KeepA.trans {z : ArmP} {H H1 H2 : Hp} (a : KeepA z H H1) (b : KeepA z H1 H2) : KeepA z H H2 := fun c o n m h t => b c o n m (a c o n m h t) t
theorem tabs_upd {T : List (Addr × Str)} {H : Hp} {p : Addr} {o o' : HO} (h : Tabs T H) (e : H p = some o) (n1 : ∀ ps, o ≠ .tbl ps) (n2 : ∀ φ, o ≠ .ext φ) : Tabs T (upd H p o') := fun t ht => by
  obtain ⟨ps, t1, t2, t3⟩ := h t ht
  refine ⟨ps, by rw [upd_ne fun q => n1 ps (Option.some.inj (e.symm.trans (by rw [← q]; exact t1)))]; exact t1, t2, fun pos cv hc => ?_⟩
  obtain ⟨c0, e1, e2⟩ := t3 pos cv hc
  exact ⟨c0, e1, by rw [upd_ne fun q => n2 _ (Option.some.inj (e.symm.trans (by rw [← q]; exact e2)))]; exact e2⟩
theorem tabs_but {T : List (Addr × Str)} {H H' : Hp} {p : Addr} {o : HO} (h : Tabs T H) (e : H p = some o) (n1 : ∀ ps, o ≠ .tbl ps) (n2 : ∀ φ, o ≠ .ext φ) (s : SameBut p H H') : Tabs T H' := fun t ht => by
  obtain ⟨ps, t1, t2, t3⟩ := h t ht
  refine ⟨ps, s _ _ (fun q => n1 ps (Option.some.inj (e.symm.trans (by rw [← q]; exact t1)))) t1, t2, fun pos cv hc => ?_⟩
  obtain ⟨c0, e1, e2⟩ := t3 pos cv hc
  exact ⟨c0, e1, s _ _ (fun q => n2 _ (Option.some.inj (e.symm.trans (by rw [← q]; exact e2)))) e2⟩
theorem erase_at {n : Nat} : ∀ {os : List Nat} {j : Nat}, os[j]? = some n → (∀ m, m < j → os[m]? ≠ some n) → os.eraseIdx j = os.erase n
  | [], _, h, _ => by simp at h
  | x :: r, 0, h, _ => by
    have e : x = n := Option.some.inj h
    subst e
    rw [List.erase_cons_head]
    rfl
  | x :: r, j + 1, h, hn => by
    have e : x ≠ n := fun z => hn 0 (Nat.succ_pos _) (by rw [z]; rfl)
    rw [List.erase_cons_tail (by simpa using e)]
    have := erase_at (os := r) (j := j) h fun m hm => hn (m + 1) (by omega)
    show x :: r.eraseIdx j = _
    rw [this]
theorem first_at {n : Nat} : ∀ {os : List Nat}, n ∈ os → ∃ j : Nat, os[j]? = some n ∧ ∀ m : Nat, m < j → os[m]? ≠ some n
  | x :: r, h => by
    by_cases e : x = n
    · exact ⟨0, by rw [e]; rfl, fun m hm => absurd hm (by omega)⟩
    · obtain ⟨j, h1, h2⟩ := first_at (os := r) ((List.mem_cons.mp h).resolve_left fun z => e z.symm)
      refine ⟨j + 1, h1, fun m hm => ?_⟩
      cases m with
      | zero => exact fun z => e (Option.some.inj z)
      | succ m => exact h2 m (by omega)
theorem nints_erase (os : List Nat) (j : Nat) : (nints os).eraseIdx j = nints (os.eraseIdx j) := by
  unfold nints
  induction os generalizing j with
  | nil => rfl
  | cons x r ih =>
    cases j with
    | zero => rfl
    | succ j =>
      show (x : Int) :: (r.map _).eraseIdx j = (x : Int) :: (r.eraseIdx j).map _
      rw [ih]
theorem nints_some {os : List Nat} {j n : Nat} : (nints os)[j]? = some (n : Int) ↔ os[j]? = some n := by
  unfold nints
  rw [List.getElem?_map]
  cases os[j]? with
  | none => simp
  | some m =>
    constructor
    · intro h
      have h : ((m : Nat) : Int) = n := Option.some.inj h
      rw [show m = n by omega]
    · intro h
      rw [Option.some.inj h]
      rfl
/-- what is chosen is one of those who wait -/
theorem choseN_mem (d : Disk) (l : List Ask) (st : ArmS) (pool : List Nat) (r : Rule) (h : pool ≠ []) : choseN d l st pool r ∈ pool := by
  have one : ∀ g : Nat → Int, pick (key3 l g) pool ∈ pool := fun g => pick_mem (key3_len l g) h
  cases r with
  | first => exact one _
  | near => exact one _
  | soon => exact one _
  | sweep =>
    show sweptN l st pool ∈ pool
    unfold sweptN
    by_cases hz : aheadU l st pool = []
    · rw [if_pos hz]
      exact one _
    · rw [if_neg hz]
      exact (List.mem_filter.mp (pick_mem (key3_len l _) hz)).1
  | loop =>
    show loopedN l st pool ∈ pool
    unfold loopedN
    by_cases hz : aheadL l st pool = []
    · rw [if_pos hz]
      exact one _
    · rw [if_neg hz]
      exact (List.mem_filter.mp (pick_mem (key3_len l _) hz)).1
theorem waitN_ne {l : List Ask} {st : ArmS} (h : st.left ≠ []) : waitN l st ≠ [] := by
  unfold waitN wakeNow
  by_cases hz : arrived l st.now st.left = []
  · rw [if_pos hz]
    intro e
    have hne : st.left.map (come l) ≠ [] := fun q => h (List.map_eq_nil_iff.mp q)
    have hm : leastI (st.left.map (come l)) ∈ st.left.map (come l) := by
      cases hl : st.left.map (come l) with
      | nil => exact absurd hl hne
      | cons x r => exact (leastI_go r x).1
    obtain ⟨n, hn, e2⟩ := List.mem_map.mp hm
    have : n ∈ arrived l (leastI (st.left.map (come l))) st.left := List.mem_filter.mpr ⟨hn, decide_eq_true (by rw [e2]; exact Int.le_refl _)⟩
    rw [e] at this
    cases this
  · rw [if_neg hz]
    exact hz
theorem waitN_sub {l : List Ask} {st : ArmS} : ∀ n ∈ waitN l st, n ∈ st.left := fun n hn => (List.mem_filter.mp hn).1
theorem waitN_len {l : List Ask} {st : ArmS} : (waitN l st).length ≤ st.left.length := List.length_filter_le _ _
theorem nextN_mem {d : Disk} {l : List Ask} {r : Rule} {st : ArmS} (h : st.left ≠ []) : nextN d l r st ∈ st.left := waitN_sub _ (choseN_mem d l _ _ r (waitN_ne h))
abbrev s_serve : Stmt := mth 7
def sp_serve (K : PySem.W.Frag) (T : List (Addr × Str)) : Sp := fun vs H Q _ => ∃ (z : ArmP) (d : Disk) (l : List Ask) (G : Hp) (st : ArmS) (r : Rule), vs = [.ref z.p, .str (ruleS r)] ∧ ArmH K z d l G H st ∧ ArmC K z.C ∧ GoodDisk d ∧ l.length ≤ 40 ∧ st.left.length ≤ 40 ∧ st.left ≠ [] ∧ Tabs T H ∧
  ∀ (H' : Hp) (t : Addr), KeepA z H H' → Tabs T H' → ArmH K z d l G H' (nextS d l r st) → (∀ o, H t = some o → ∃ ps, o = .tbl ps) → H' t = some (.tup [.int ((nextN d l r st : Nat) : Int), .int (nextS d l r st).now]) → Q (.ref t) H'
theorem sc_serve : FnScope ["self", "rule", "number"] ["self", "rule"] (defScope s_serve) := ⟨rfl, rfl, rfl, by decide +kernel, rfl, by decide +kernel, by decide +kernel⟩
section
variable {P : Program} {w : World} {K : PySem.W.Frag} {mg : Str → Option Value} {base : Heap}
theorem ok_serve {f f1 f2 f5 : Addr} {fd fd1 fd2 fd5 : FuncData} {T : List (Addr × Str)} (F : Fun K "serve" "Arm.serve" s_serve f fd)
    (G_waiting : FnOk P w K mg base CX0 1 f1 fd1 ["self"] (sp_waiting K)) (M_waiting0 : ∀ C, ArmC K C → Mt K C "waiting" f1 fd1 ["self"])
    (G_chosen : FnOk P w K mg base CX0 7 f2 fd2 ["self", "rule", "some"] (sp_chosen K T)) (M_chosen0 : ∀ C, ArmC K C → Mt K C "chosen" f2 fd2 ["self", "rule", "some"])
    (G_served : FnOk P w K mg base CX0 1 f5 fd5 ["disk", "now", "here", "ask"] (sp_served K)) (C_served : Cal K mg "served" f5 fd5 ["disk", "now", "here", "ask"]) : FnOk P w K mg base CX0 8 f fd ["self", "rule"] (sp_serve K T) := by
  refine F.ok sc_serve (fun vs H Q E h => ?_) (fun cdv A outer s H vs Q E hr h => ?_)
  · obtain ⟨z, d, l, G, st, r, rfl, _⟩ := h
    rfl
  · obtain ⟨z, d, l, G, st, r, rfl, hA, AC, gd, h40, hp40, hne, hT, q⟩ := h
    have nd := sc_serve.nd
    have M_waiting := M_waiting0 _ AC
    have M_chosen := M_chosen0 _ AC
    have hr_waiting : Room 1 _ := hr.mono (by decide)
    have hr_chosen : Room 7 _ := hr
    have hr_served : Room 1 _ := hr.mono (by decide)
    refine ⟨_, (pss_cons (ps_set (i := 2) nd rfl (.inl rfl) (pe_meth (pv 0) AC.cl M_chosen.m G_chosen hr_chosen M_chosen.b .nil pass0 (pa_cons (pv 1) (pa_cons (pe_meth0 (pv 0) AC.cl M_waiting.m G_waiting hr_waiting M_waiting.b .nil pass0) pa_nil))))
      (pss_cons (ps_fld (pv 0) (pe_call G_served hr_served rfl C_served.m C_served.k C_served.b .nil pass0 (pa_cons (pe_fld (pv 0) rfl) (pa_cons (pe_fld (pv 0) rfl) (pa_cons (pe_fld (pv 0) rfl) (pa_cons (pe_ix (r := rIxL K) ix_list (pe_fld (pv 0) rfl) (pv 2) (fun _ _ => rfl)) pa_nil))))) rfl)
      (pss_cons (ps_fld (pv 0) (pe_ix (r := rIxT K) ix_tup (pe_ix (r := rIxL K) ix_list (pe_fld (pv 0) rfl) (pv 2) (fun _ _ => rfl)) pe_int (fun _ _ => rfl)) rfl)
      (pss_cons (ps_expr (pe_bm PySem.F.plainAttrs_list PySem.F.slot_list_remove PySem.F.type_list_remove mt_remove (pe_fld (pv 0) rfl) (pa_cons (pv 2) pa_nil)))
      (pss_one (ps_ret (pe_tup (pa_cons (pv 2) (pa_cons (pe_fld (pv 0) rfl) pa_nil))))))))), ?_⟩
    refine ⟨_, rfl, z.p, z.dx, _, rfl, hA.ins, rfl, _, rfl, _, rfl, z.p, z.dx, _, rfl, hA.ins, rfl, z, d, l, G, st, rfl, hA, AC, hp40, hne, fun H1 W sb1 hA1 hW => ?_⟩
    have hT1 : Tabs T H1 := tabs_but hT hA.ins (by intro _ q; cases q) (by intro _ q; cases q) sb1
    have hlw : (waitN l st).length ≤ 40 := Nat.le_trans waitN_len hp40
    refine ⟨z, d, l, G, wake l st, waitN l st, W, r, rfl, hA1, AC, gd, h40, hlw, hW, waitN_ne hne, fun n hn => hA.lt n (waitN_sub n hn), hT1, fun H2 kp2 hT2 hA2 => ?_⟩
    have hnm : choseN d l (wake l st) (waitN l st) r ∈ st.left := nextN_mem hne
    have hnl := hA.lt _ hnm
    obtain ⟨xs, qa, hL, hlen, hq, hTq, hdq⟩ := hA2.ask hnl
    refine ⟨_, rfl, z.p, z.C, z.dx, _, _, rfl, hA2.ins, AC.cl, AC.disk, rfl, _, rfl, z.p, z.C, z.dx, _, _, rfl, hA2.ins, AC.cl, AC.now, rfl, _, rfl, z.p, z.C, z.dx, _, _, rfl, hA2.ins, AC.cl, AC.here, rfl, _, rfl, z.p, z.C, z.dx, _, _, rfl, hA2.ins, AC.cl, AC.asks, rfl, _, rfl, z.b, xs, _, _, rfl, rfl, hL, atI_nat hq, ?_⟩
    refine ⟨_, _, d, _, _, l.getD (nextN d l r st) (0, 0, 0), rfl, dp_same hA2.sub hA2.dk, hdq, gd, ?_⟩
    refine ⟨_, rfl, z.p, z.C, z.dx, _, rfl, hA2.ins, AC.cl, AC.now, (by show (6 : Nat) < 1000; decide), ?_⟩
    rw [put_now]
    have hA3 := hA2.turn (s' := ⟨(nextS d l r st).now, st.here, (nextS d l r st).up, st.left⟩) rfl
    have sb3 : SameBut z.p H2 (upd H2 z.p (.ins z.C z.dx (flds z ⟨(nextS d l r st).now, st.here, (nextS d l r st).up, st.left⟩))) := sb_upd sb_refl
    have hT3 := tabs_but hT2 hA2.ins (by intro _ q; cases q) (by intro _ q; cases q) sb3
    have kp3 : KeepP z H2 (upd H2 z.p (.ins z.C z.dx (flds z ⟨(nextS d l r st).now, st.here, (nextS d l r st).up, st.left⟩))) := fun b o n h _ => sb3 b o n h
    have fold : ∀ {A : Hp → Prop}, A (upd H2 z.p (.ins z.C z.dx (flds z ⟨(nextS d l r st).now, st.here, (nextS d l r st).up, st.left⟩))) → A (upd H2 z.p (.ins z.C z.dx (flds z { ({ wake l st with up := choseU l (wake l st) (waitN l st) r } : ArmS) with now := serve d (wakeNow l st) st.here (l.getD (nextN d l r st) (0, 0, 0)) }))) := fun h => h
    refine fold ?_
    revert hA3 hT3 kp3
    generalize upd H2 z.p (.ins z.C z.dx (flds z ⟨(nextS d l r st).now, st.here, (nextS d l r st).up, st.left⟩)) = H3
    intro hA3 hT3 kp3
    obtain ⟨xs3, qa3, hL3, hlen3, hq3, hTq3, _⟩ := hA3.ask hnl
    refine ⟨_, rfl, z.p, z.C, z.dx, _, _, rfl, hA3.ins, AC.cl, AC.asks, rfl, _, rfl, z.b, xs3, _, _, rfl, rfl, hL3, atI_nat hq3, qa3, _, 1, _, rfl, rfl, hTq3, atI_nat (j := 1) rfl, ?_⟩
    refine ⟨_, rfl, z.p, z.C, z.dx, _, rfl, hA3.ins, AC.cl, AC.here, (by show (6 : Nat) < 1000; decide), ?_⟩
    rw [put_here]
    have hA4 := hA3.turn (s' := ⟨(nextS d l r st).now, (nextS d l r st).here, (nextS d l r st).up, st.left⟩) rfl
    have sb4 : SameBut z.p H3 (upd H3 z.p (.ins z.C z.dx (flds z ⟨(nextS d l r st).now, (nextS d l r st).here, (nextS d l r st).up, st.left⟩))) := sb_upd sb_refl
    have hT4 := tabs_but hT3 hA3.ins (by intro _ q; cases q) (by intro _ q; cases q) sb4
    have kp4 : KeepP z H3 (upd H3 z.p (.ins z.C z.dx (flds z ⟨(nextS d l r st).now, (nextS d l r st).here, (nextS d l r st).up, st.left⟩))) := fun b o n h _ => sb4 b o n h
    have fold : ∀ {A : Hp → Prop}, A (upd H3 z.p (.ins z.C z.dx (flds z ⟨(nextS d l r st).now, (nextS d l r st).here, (nextS d l r st).up, st.left⟩))) → A (upd H3 z.p (.ins z.C z.dx (flds z { (⟨(nextS d l r st).now, st.here, (nextS d l r st).up, st.left⟩ : ArmS) with here := trk l (nextN d l r st) }))) := fun h => h
    refine fold ?_
    revert hA4 hT4 kp4
    generalize upd H3 z.p (.ins z.C z.dx (flds z ⟨(nextS d l r st).now, (nextS d l r st).here, (nextS d l r st).up, st.left⟩)) = H4
    intro hA4 hT4 kp4
    obtain ⟨j, hj, hjn⟩ := first_at hnm
    have hlf4 : H4 z.Lf = some (.lst ((nints st.left).map V.int)) := hA4.lf
    refine ⟨_, rfl, z.p, z.C, z.dx, _, _, rfl, hA4.ins, AC.cl, AC.left, rfl, .inl ⟨rfl, _, SqL.of hlf4⟩, _, rfl, z.Lf, nints st.left, ((nextN d l r st : Nat) : Int), j, rfl, rfl, hlf4, nints_some.mpr hj, fun m hm e => hjn m hm (nints_some.mp e), ?_⟩
    rw [nints_erase, erase_at hj hjn]
    have nLp : z.Lf ≠ z.p := ne_of hlf4 hA4.ins (by intro q; cases q)
    have hA5 : ArmH K z d l G (upd H4 z.Lf (.lst ((nints (st.left.erase (nextN d l r st))).map V.int))) (nextS d l r st) :=
      ⟨hA4.nt, fun b o k => by rw [upd_ne (ne_of_none k hA4.gL)]; exact hA4.sub b o k, hA4.gp, hA4.gL, hA4.dk, hA4.ak, by rw [upd_ne nLp.symm]; exact hA4.ins, upd_same, fun n hn => hA.lt n (List.mem_of_mem_erase hn)⟩
    have hT5 : Tabs T (upd H4 z.Lf (.lst ((nints (st.left.erase (nextN d l r st))).map V.int))) := tabs_upd hT4 hlf4 (by intro _ q; cases q) (by intro _ q; cases q)
    have kp5 : KeepA z H (upd H4 z.Lf (.lst ((nints (st.left.erase (nextN d l r st))).map V.int))) := fun b o n m h t => by
      rw [upd_ne m]
      exact kp4 b o n (kp3 b o n (kp2 b o n (sb1 b o n h) t) t) t
    have fold : ∀ {A : Hp → Prop}, A (upd H4 z.Lf (.lst ((nints (st.left.erase (nextN d l r st))).map V.int))) → A (upd H4 z.Lf (.lst ((nints (st.left.erase (choseN d l (wake l st) (waitN l st) r))).map V.int))) := fun h => h
    refine fold ?_
    revert hA5 hT5 kp5
    generalize upd H4 z.Lf (.lst ((nints (st.left.erase (nextN d l r st))).map V.int)) = H5
    intro hA5 hT5 kp5
    refine ⟨_, rfl, _, rfl, z.p, z.C, z.dx, _, _, rfl, hA5.ins, AC.cl, AC.now, rfl, (by show 2 ≤ sizeLine; decide), fun t ht => ?_⟩
    have s6 := same_new (o := HO.tup [.int ((nextN d l r st : Nat) : Int), .int (nextS d l r st).now]) ht
    refine q _ t (kp5.trans (fun b o _ _ h _ => s6 b o h)) (hT5.ext s6) (hA5.same s6) (fun o ho => ?_) upd_same
    by_cases hz : ∃ ps, o = .tbl ps
    · exact hz
    · have hz' : ∀ ps, o ≠ .tbl ps := fun ps e => hz ⟨ps, e⟩
      have ntp : t ≠ z.p := fun e => by rw [e, hA5.ins] at ht; cases ht
      have ntL : t ≠ z.Lf := fun e => by rw [e, hA5.lf] at ht; cases ht
      have := kp5 t o ntp ntL ho hz'
      rw [ht] at this
      cases this
end
end Ag

namespace Ag
open PySem PySem.Spec PyProof.Rows L2
/-! ### the arm made, rows_by -/
open LamX NdefX
abbrev s_init : Stmt := mth 0
def sp_init (K : PySem.W.Frag) : Sp := fun vs H Q _ => ∃ (C x dx a b : Addr) (d : Disk) (l : List Ask) (G : Hp), vs = [.ref x, .ref a, .ref b] ∧ (∀ b ps, G b ≠ some (.tbl ps)) ∧ Same G H ∧ G x = none ∧ Dp K G (.ref a) (dDisk d) ∧ Dp K G (.ref b) (dAsks l) ∧ H x = some (.ins C dx []) ∧ ArmC K C ∧ l.length ≤ 40 ∧
  ∀ (H' : Hp) (Lf : Addr), SameBut x H H' → ArmH K ⟨C, x, dx, a, b, Lf⟩ d l G H' (armS0 d l) → Q .non H'
theorem sc_init : FnScope ["self", "disk", "asks"] ["self", "disk", "asks"] (defScope s_init) := ⟨rfl, rfl, rfl, by decide +kernel, rfl, by decide +kernel, by decide +kernel⟩
theorem putF_le (f : Str) (v : V) : ∀ fs : List (Str × V), (putF f v fs).length ≤ fs.length + 1
  | [] => Nat.le_refl _
  | (g, x) :: r => by
    have ih := putF_le f v r
    unfold putF
    split
    · exact Nat.le_succ _
    · exact Nat.succ_le_succ ih
theorem lt1 {f : Str} {v : V} {n : Nat} {fs : List (Str × V)} (h : fs.length < n) : (putF f v fs).length < n + 1 := Nat.lt_of_le_of_lt (putF_le f v fs) (Nat.succ_lt_succ h)
/-- the heap less the tables -/
def ntH (H : Hp) : Hp := fun b => match H b with
  | some (.tbl _) => none
  | o => o
theorem ntH_some {H : Hp} {b : Addr} {o : HO} : ntH H b = some o ↔ H b = some o ∧ ∀ ps, o ≠ .tbl ps := by
  unfold ntH
  constructor
  · intro h
    cases e : H b with
    | none => rw [e] at h; cases h
    | some u =>
      rw [e] at h
      cases u with
      | tbl ps => cases h
      | _ => cases h; exact ⟨rfl, fun ps q => by cases q⟩
  · rintro ⟨h, n⟩
    rw [h]
    cases o with
    | tbl ps => exact absurd rfl (n ps)
    | _ => rfl
theorem ntH_nt (H : Hp) : ∀ b ps, ntH H b ≠ some (.tbl ps) := fun b ps e => (ntH_some.mp e).2 ps rfl
theorem ntH_sub (H : Hp) : Same (ntH H) H := fun b o e => (ntH_some.mp e).1
theorem ntH_keep {H H' : Hp} (e : ExtN H H') : Same (ntH H) H' := fun b o h => e b o (ntH_some.mp h).1 (ntH_some.mp h).2
theorem ntH_none {H : Hp} {b : Addr} (h : H b = none) : ntH H b = none := by unfold ntH; rw [h]
theorem ntH_mono {H H' : Hp} (e : ExtN H H') : Same (ntH H) (ntH H') := fun b o h => ntH_some.mpr ⟨ntH_keep e b o h, (ntH_some.mp h).2⟩
mutual
theorem dp_nt {K : PySem.W.Frag} {H : Hp} : ∀ {d : PyData} {v : V}, Dp K H v d → Dp K (ntH H) v d
  | .none, _, h => by cases h; exact .non
  | .bool _, _, h => by cases h; exact .bl _
  | .int _, _, h => by cases h; exact .int _
  | .str _, _, h => by cases h; exact .str _
  | .list _, _, h => by
    cases h with
    | lst hs ha =>
      refine .lst ?_ (dpa_nt ha)
      rcases hs with (h | ⟨o, h⟩) | h
      · exact .inl (.inl (ntH_some.mpr ⟨h, fun ps q => by cases q⟩))
      · exact .inl (.inr ⟨o, ntH_some.mpr ⟨h, fun ps q => by cases q⟩⟩)
      · exact .inr h
  | .tuple _, _, h => by
    cases h with
    | tup hs ha =>
      refine .tup ?_ (dpa_nt ha)
      rcases hs with (h | ⟨o, h⟩) | h
      · exact .inl (.inl (ntH_some.mpr ⟨h, fun ps q => by cases q⟩))
      · exact .inl (.inr ⟨o, ntH_some.mpr ⟨h, fun ps q => by cases q⟩⟩)
      · exact .inr h
  | .dict _, _, h => by cases h
theorem dpa_nt {K : PySem.W.Frag} {H : Hp} : ∀ {ds : List PyData} {vs : List V}, DpAll K H vs ds → DpAll K (ntH H) vs ds
  | [], _, h => by cases h; exact .nil
  | _ :: _, _, h => by
    cases h with
    | cons h1 h2 => exact .cons (dp_nt h1) (dpa_nt h2)
end
section
variable {P : Program} {w : World} {K : PySem.W.Frag} {mg : Str → Option Value} {base : Heap}
theorem ok_init {f : Addr} {fd : FuncData} (F : Fun K "__init__" "Arm.__init__" s_init f fd) (mb_list : mg "list" = none) (mb_range : mg "range" = none) (mb_len : mg "len" = none) : FnOk P w K mg base CX0 1 f fd ["self", "disk", "asks"] (sp_init K) := by
  refine F.ok sc_init (fun vs H Q E h => ?_) (fun cdv A outer s H vs Q E hr h => ?_)
  · obtain ⟨C, x, dx, a, b, d, l, G, rfl, _⟩ := h
    rfl
  · obtain ⟨C, x, dx, a, b, d, l, G, rfl, nt, sub, gx, dk, ak, hx, AC, h40, q⟩ := h
    have nd := sc_init.nd
    obtain ⟨a', e1, hT⟩ := dp_disk dk
    cases e1
    obtain ⟨b', xs, e2, hL, hlen, _⟩ := dp_asks ak
    cases e2
    refine ⟨_, (pss_cons (ps_fld (pv 0) (pv 1) rfl)
      (pss_cons (ps_fld (pv 0) (pv 2) rfl)
      (pss_cons (ps_fld (pv 0) pe_int rfl)
      (pss_cons (ps_fld (pv 0) (pe_ix (r := rIxT K) ix_tup (pv 1) pe_int (fun _ _ => rfl)) rfl)
      (pss_cons (ps_fld (pv 0) pe_bl rfl)
      (pss_one (ps_fld (pv 0) (pe_listRg rfl rfl mb_list (prg_1 rfl mb_range (pe_callB call_len_seq (by rfl) mb_len PySem.boot_len (pa_cons (pv 2) pa_nil)))) rfl))))))), ?_⟩
    have step : ∀ {H1 : Hp} {fs fs' : List (Str × V)}, Same G H1 → SameBut x H H1 → fs' = fs' → Same G (upd H1 x (.ins C dx fs')) ∧ SameBut x H (upd H1 x (.ins C dx fs')) := fun s1 s2 _ => ⟨same_upd s1 gx, sb_upd s2⟩
    refine ⟨_, rfl, _, rfl, x, C, dx, _, rfl, hx, AC.cl, AC.disk, (by decide), ?_⟩
    obtain ⟨g1, b1⟩ := step (fs := []) (fs' := putF "disk" (.ref a) []) sub sb_refl rfl
    refine ⟨_, rfl, _, rfl, x, C, dx, _, rfl, upd_same, AC.cl, AC.asks, (lt1 (by decide)), ?_⟩
    obtain ⟨g2, b2⟩ := step (fs := []) (fs' := putF "asks" (.ref b) (putF "disk" (.ref a) [])) g1 b1 rfl
    refine ⟨_, rfl, x, C, dx, _, rfl, upd_same, AC.cl, AC.now, (lt1 (lt1 (by decide))), ?_⟩
    obtain ⟨g3, b3⟩ := step (fs := []) (fs' := putF "now" (.int 0) (putF "asks" (.ref b) (putF "disk" (.ref a) []))) g2 b2 rfl
    refine ⟨_, rfl, a, _, 3, _, rfl, rfl, same_sqt g3 hT, atI_nat (j := 3) rfl, _, rfl, x, C, dx, _, rfl, upd_same, AC.cl, AC.here, (lt1 (lt1 (lt1 (by decide)))), ?_⟩
    obtain ⟨g4, b4⟩ := step (fs := []) (fs' := putF "here" (.int d.he) (putF "now" (.int 0) (putF "asks" (.ref b) (putF "disk" (.ref a) [])))) g3 b3 rfl
    refine ⟨_, rfl, x, C, dx, _, rfl, upd_same, AC.cl, AC.up, (lt1 (lt1 (lt1 (lt1 (by decide))))), ?_⟩
    obtain ⟨g5, b5⟩ := step (fs := []) (fs' := putF "up" (.bl true) (putF "here" (.int d.he) (putF "now" (.int 0) (putF "asks" (.ref b) (putF "disk" (.ref a) []))))) g4 b4 rfl
    refine ⟨_, rfl, b, xs, rfl, .inl (g5.seq hL), _, rfl, RgOk.of_le (by decide) (by omega) (by decide) (by omega), fun Lf hLf => ?_⟩
    rw [show rgV 0 (xs.length : Int) = (nints (List.range l.length)).map V.int by rw [hlen]; exact rg_nints _]
    have nLx : x ≠ Lf := ne_of_none upd_same hLf
    refine ⟨_, rfl, x, C, dx, _, rfl, by rw [upd_ne nLx]; exact upd_same, AC.cl, AC.left, (lt1 (lt1 (lt1 (lt1 (lt1 (by decide)))))), ?_⟩
    have gL : G Lf = none := g5.free hLf
    refine q _ Lf (sb_upd (sb_trans b5 (sb_of (same_new hLf)))) ⟨nt, same_upd (g5.trans (same_new hLf)) gx, gx, gL, dk, ak, ?_, by rw [upd_ne nLx.symm]; exact upd_same, fun n hn => List.mem_range.mp hn⟩
    exact upd_same.trans (by kernel_rfl)
end

/-! ### rows_by -/
theorem runS_left (d : Disk) (l : List Ask) (r : Rule) (st : ArmS) : ∀ k, k ≤ st.left.length → (runS d l r k st).left.length = st.left.length - k
  | 0, _ => rfl
  | k + 1, h => by
    have ih := runS_left d l r st k (by omega)
    have hne : (runS d l r k st).left ≠ [] := fun e => by rw [e] at ih; simp at ih; omega
    show ((runS d l r k st).left.erase (nextN d l r (runS d l r k st))).length = _
    rw [List.length_erase_of_mem (nextN_mem hne), ih]
    omega
theorem rowsS_len (d : Disk) (l : List Ask) (r : Rule) (st : ArmS) : ∀ k, (rowsS d l r st k).length = k
  | 0 => rfl
  | k + 1 => by
    show (rowsS d l r st k ++ [_]).length = _
    rw [List.length_append, rowsS_len d l r st k]
    rfl
def RowV (G H : Hp) (x : V) (r : Nat × Int) : Prop := ∃ t, x = .ref t ∧ H t = some (.tup [.int (r.1 : Int), .int r.2]) ∧ G t = none
theorem rowV_dp {K : PySem.W.Frag} {G H : Hp} {D : Addr} (hD : ∃ ys, H D = some (.lst ys)) : ∀ {xs : List V} {rs : List (Nat × Int)}, All2 (RowV G H) xs rs → DpAll K (fr G H D) xs (rs.map dRow)
  | [], [], _ => .nil
  | x :: xs, r :: rs, h => by
    obtain ⟨⟨t, rfl, ht, gt⟩, h2⟩ := h
    obtain ⟨ys, hD'⟩ := hD
    exact .cons (dp_tints_of (ns := [(r.1 : Int), r.2]) (SqT.of (fr_at (ne_of ht hD' (by intro q; cases q)) gt ht))) (rowV_dp ⟨ys, hD'⟩ h2)
  | [], _ :: _, h => h.elim
  | _ :: _, [], h => h.elim
theorem ArmH.keepD {K : PySem.W.Frag} {z : ArmP} {d : Disk} {l : List Ask} {G H H' : Hp} {s : ArmS} {D : Addr} (h : ArmH K z d l G H s) (e : ∀ b o, b ≠ D → H b = some o → H' b = some o) (gD : G D = none) (n1 : D ≠ z.p) (n2 : D ≠ z.Lf) : ArmH K z d l G H' s :=
  ⟨h.nt, fun b o k => e b o (ne_of_none k gD) (h.sub b o k), h.gp, h.gL, h.dk, h.ak, e _ _ n1.symm h.ins, e _ _ n2.symm h.lf, h.lt⟩
abbrev s_rows_by : Stmt := top 26
def sp_rows_by (K : PySem.W.Frag) (T : List (Addr × Str)) : Sp := fun vs H Q _ => ∃ (v u : V) (d : Disk) (l : List Ask) (r : Rule), vs = [v, u, .str (ruleS r)] ∧ Dp K H v (dDisk d) ∧ Dp K H u (dAsks l) ∧ GoodDisk d ∧ l.length ≤ 40 ∧ Tabs T H ∧
  ∀ (H' : Hp) (D : Addr) (xs : List V), Same (ntH H) H' → Tabs T H' → ntH H D = none → H' D = some (.lst xs) → DpAll K (fr (ntH H) H' D) xs ((ruledR d l r).map dRow) → Q (.ref D) H'
theorem sc_rows_by : FnScope ["disk", "asks", "rule", "arm", "turn"] ["disk", "asks", "rule"] (defScope s_rows_by) := ⟨rfl, rfl, rfl, by decide +kernel, rfl, by decide +kernel, by decide +kernel⟩
section
variable {P : Program} {w : World} {K : PySem.W.Frag} {mg : Str → Option Value} {base : Heap}
theorem ok_rows_by {f f1 f2 C : Addr} {fd fd1 fd2 : FuncData} {T : List (Addr × Str)} (F : Fun K "rows_by" "rows_by" s_rows_by f fd) (AC : ArmC K C) (MK_Arm : Mk K C f1) (mg_Arm : mg "Arm" = some (.ref C))
    (G_init : FnOk P w K mg base CX0 1 f1 fd1 ["self", "disk", "asks"] (sp_init K)) (b_init : Binds K fd1 ["self", "disk", "asks"] [])
    (G_serve : FnOk P w K mg base CX0 8 f2 fd2 ["self", "rule"] (sp_serve K T)) (M_serve : Mt K C "serve" f2 fd2 ["self", "rule"])
    (mb_range : mg "range" = none) (mb_len : mg "len" = none) : FnOk P w K mg base CX0 9 f fd ["disk", "asks", "rule"] (sp_rows_by K T) := by
  refine F.ok sc_rows_by (fun vs H Q E h => ?_) (fun cdv A outer s H vs Q E hr h => ?_)
  · obtain ⟨v, u, d, l, r, rfl, _⟩ := h
    rfl
  · obtain ⟨v, u, d, l, r, rfl, hd, ha, gd, h40, hT, q⟩ := h
    have nd := sc_rows_by.nd
    have hr_serve : Room 8 _ := hr
    have hr_init : Room 2 _ := hr.mono (by decide)
    obtain ⟨a, rfl, _⟩ := dp_disk hd
    obtain ⟨b, xs, rfl, hL, hlen, _⟩ := dp_asks ha
    refine ⟨_, (pss_cons (ps_set (i := 3) nd rfl (.inr rfl) (pe_make MK_Arm G_init hr_init rfl mg_Arm b_init .nil pass0 (pa_cons (pv 0) (pa_cons (pv 1) pa_nil))))
      (pss_one (ps_ret (pe_lc (own := [("turn", 4)]) (g := (gName 4)) (tt := tYes) rfl nd (pi_range1 rfl mb_range (pa_cons (pe_callB call_len_seq (by rfl) mb_len PySem.boot_len (pa_cons (pv 1) pa_nil)) pa_nil)) (blkOk_by (own := [("turn", 4)]) (N := ["disk", "asks", "rule", "arm", "turn"]) (sc := defScope s_rows_by) (by decide +kernel)) (fun _ _ _ _ _ => (pg_name (i := 4) nd rfl (.inl rfl))) (fun _ _ _ _ _ => pts_nil) (fun _ _ _ _ _ => (pe_meth (pv 3) AC.cl M_serve.m G_serve hr_serve M_serve.b .nil pass0 (pa_cons (pv 2) pa_nil))))))), ?_⟩
    refine ⟨_, rfl, _, rfl, fun x dx hx hdx nxd => ?_⟩
    have gx : ntH H x = none := ntH_none hx
    have gdx : ntH H dx = none := ntH_none hdx
    have s1 : Same H (upd (upd H dx (.own x)) x (.ins C dx [])) := same_upd (same_new hdx) hx
    refine ⟨C, x, dx, a, b, d, l, ntH H, rfl, ntH_nt H, (ntH_sub H).trans s1, gx, dp_nt hd, dp_nt ha, upd_same, AC, h40, fun H1 Lf sb1 hA1 => ⟨rfl, ?_⟩⟩
    have hT1 : Tabs T H1 := tabs_but (hT.ext s1) upd_same (by intro _ q; cases q) (by intro _ q; cases q) sb1
    have hL1 : SqL K H1 b xs := (hA1.sub).seq (by
      rcases hL with (h | ⟨o, h⟩) | h
      · exact .inl (.inl (ntH_some.mpr ⟨h, fun ps q => by cases q⟩))
      · exact .inl (.inr ⟨o, ntH_some.mpr ⟨h, fun ps q => by cases q⟩⟩)
      · exact .inr h)
    refine ⟨_, rfl, b, xs, rfl, .inl hL1, l.length, by rw [hlen], by omega, by omega, fun D hD => ?_⟩
    have s2 := same_new (o := .lst []) hD
    have gD : ntH H D = none := (hA1.sub).free hD
    have hp0 : armS0 d l = runS d l r 0 (armS0 d l) := rfl
    refine lc_range (lo := 0) (n := l.length) (fun i H' => ArmH K ⟨C, x, dx, a, b, Lf⟩ d l (ntH H) H' (runS d l r i (armS0 d l)) ∧ Tabs T H' ∧ ∃ ts : List V, H' D = some (.lst ts) ∧ ts.length = i ∧ All2 (RowV (ntH H) H') ts (rowsS d l r (armS0 d l) i)) ⟨hA1.same s2, hT1.ext s2, [], upd_same, rfl, trivial⟩ ?_ ?_
    · rintro i H2 hi ⟨hA2, hT2, ts, eD, hts, hrows⟩
      have hl : (runS d l r i (armS0 d l)).left.length = l.length - i := by
        have := runS_left d l r (armS0 d l) i (by show i ≤ (List.range l.length).length; rw [List.length_range]; omega)
        rw [this]
        show (List.range l.length).length - i = _
        rw [List.length_range]
      have hne : (runS d l r i (armS0 d l)).left ≠ [] := fun e => by rw [e] at hl; simp at hl; omega
      refine ⟨rfl, _, rfl, x, dx, _, rfl, hA2.ins, rfl, _, rfl, ⟨C, x, dx, a, b, Lf⟩, d, l, ntH H, _, r, rfl, hA2, AC, gd, h40, by omega, hne, hT2, fun H3 t kp hT3 hA3 ht0 ht => ?_⟩
      have nDp : D ≠ x := ne_of eD hA2.ins (by intro q; cases q)
      have nDL : D ≠ Lf := fun e => by
        have h1 := hA1.lf
        rw [show ArmP.Lf ⟨C, x, dx, a, b, Lf⟩ = D from e.symm, hD] at h1
        cases h1
      have eD3 := kp D _ nDp nDL eD (by intro _ q; cases q)
      have ntD : t ≠ D := ne_of ht eD3 (by intro q; cases q)
      have gt : ntH H t = none := by
        cases q : ntH H t with
        | none => rfl
        | some o =>
          obtain ⟨ps, e⟩ := ht0 o (hA2.sub t o q)
          exact absurd (e ▸ q) (ntH_nt H t ps)
      refine ⟨ts, eD3, small1000 (by omega), hA3.keepD (fun b' o n h => by rw [upd_ne n]; exact h) gD nDp nDL, tabs_upd hT3 eD3 (by intro _ q; cases q) (by intro _ q; cases q), ts ++ [.ref t], upd_same, by rw [List.length_append, hts]; rfl, ?_⟩
      refine all2_snoc ⟨t, rfl, by rw [upd_ne ntD]; exact ht, gt⟩ (all2_mono (fun y rr hy => ?_) hrows)
      obtain ⟨t', e, h1, h2⟩ := hy
      have n1 : t' ≠ x := ne_of h1 hA2.ins (by intro q; cases q)
      have n2 : t' ≠ Lf := ne_of h1 hA2.lf (by intro q; cases q)
      have n3 : t' ≠ D := ne_of h1 eD (by intro q; cases q)
      exact ⟨t', e, by rw [upd_ne n3]; exact kp t' _ n1 n2 h1 (by intro _ q; cases q), h2⟩
    · rintro H2 ⟨hA2, hT2, ts, eD, hts, hrows⟩
      exact q H2 D ts hA2.sub hT2 gD eD (rowV_dp ⟨_, eD⟩ hrows)
end
end Ag

namespace Ag
open PySem PySem.Spec PyProof.Rows L2
/-! ### costs_of -/
abbrev s_costs_of : Stmt := top 19
def sp_costs_of (K : PySem.W.Frag) : Sp := fun vs H Q _ => ∃ (v u o : V) (d : Disk) (l : List Ask) (rs : List (Nat × Int)), vs = [v, u, o] ∧ Dp K H v (dDisk d) ∧ Dp K H u (dAsks l) ∧ Dp K H o (.list (rs.map dRow)) ∧ (∀ r ∈ rs, r.1 < l.length) ∧ rs.length ≤ 1000 ∧
  ∀ (H' : Hp) (p : Addr), Same H H' → H p = none → H' p = some (.tup ([(costsOf d l rs).1, (costsOf d l rs).2.1, (costsOf d l rs).2.2].map V.int)) → Q (.ref p) H'
theorem sc_costs_of : FnScope ["disk", "asks", "rows", "way", "here", "waits", "number", "done"] ["disk", "asks", "rows"] (defScope s_costs_of) := ⟨rfl, rfl, rfl, by decide +kernel, rfl, by decide +kernel, by decide +kernel⟩
section
variable {P : Program} {w : World} {K : PySem.W.Frag} {mg : Str → Option Value} {base : Heap}
theorem ok_costs_of {f : Addr} {fd : FuncData} (F : Fun K "costs_of" "costs_of" s_costs_of f fd) (ma : mg "abs" = none) (mm : mg "max" = none) (ms : mg "sum" = none) :
    FnOk P w K mg base CX0 1 f fd ["disk", "asks", "rows"] (sp_costs_of K) := by
  refine F.ok sc_costs_of (fun vs H Q E h => ?_) (fun cdv A outer s H vs Q E hr h => ?_)
  · obtain ⟨v, u, o, d, l, rs, rfl, _⟩ := h
    rfl
  · obtain ⟨v, u, o, d, l, rs, rfl, hd, ha, ho, hin, hlen, q⟩ := h
    obtain ⟨a, rfl, hT⟩ := dp_disk hd
    obtain ⟨b, xs, rfl, hL, hxl, hat⟩ := dp_asks ha
    obtain ⟨c, zs, rfl, hO, hzs⟩ := dp_list ho
    have hzl : zs.length = rs.length := by rw [dpa_len hzs, List.length_map]
    have nd := sc_costs_of.nd
    refine ⟨_, pss_cons (ps_set (i := 3) nd rfl (.inl rfl) pe_int)
      (pss_cons (ps_set (i := 4) nd rfl (.inl rfl) (pe_ix ix_tup (pv 0) pe_int (fun _ _ => rfl)))
      (pss_cons (ps_set (i := 5) nd rfl (.inl rfl) (pe_lst pa_nil))
      (pss_cons (ps_for PassesOwn.never rfl (pi_list (pv 2)) (pg_tup rfl (pgs_cons (pg_name (i := 6) nd rfl (.inl rfl)) (pgs_cons (pg_name (i := 7) nd rfl (.inl rfl)) pgs_nil)))
        (pss_cons (ps_set (i := 3) nd rfl (.inl rfl) (pe_op op_add (pv 3) (pe_callB call_abs (by rfl) ma (by decide +kernel) (pa_cons (pe_op op_sub (pe_ix ix_tup (pe_ix ix_list (pv 1) (pv 6) (fun _ _ => rfl)) pe_int (fun _ _ => rfl)) (pv 4)) pa_nil))))
        (pss_cons (ps_set (i := 4) nd rfl (.inl rfl) (pe_ix ix_tup (pe_ix ix_list (pv 1) (pv 6) (fun _ _ => rfl)) pe_int (fun _ _ => rfl)))
        (pss_one (ps_expr (pe_bm PySem.F.plainAttrs_list PySem.F.slot_list_append PySem.F.type_list_append mt_append (pv 5) (pa_cons (pe_op op_sub (pv 7) (pe_ix ix_tup (pe_ix ix_list (pv 1) (pv 6) (fun _ _ => rfl)) pe_int (fun _ _ => rfl))) pa_nil)))))))
      (pss_one (ps_ret (pe_tup (pa_cons (pv 3) (pa_cons (pe_callBK (cr_maxD0 rfl (hu_of hr)) rfl mm (by decide +kernel) (pa_cons (pv 5) pa_nil) (pk_cons pe_int pk_nil)) (pa_cons (pe_callB (cr_sum rfl) (by rfl) ms (by decide +kernel) (pa_cons (pv 5) pa_nil)) pa_nil))))))))), ?_⟩
    refine ⟨_, rfl, a, _, 3, _, rfl, rfl, hT, atI_nat (j := 3) rfl, Nat.zero_le _, fun W hW => ?_⟩
    have s0 : Same H (upd H W (.lst [])) := same_new hW
    refine ⟨_, rfl, c, rfl, ⟨_, s0.seq hO⟩, for_list (K := K) (a := c) (xs := zs)
      (fun i σ H' => Same H H' ∧ ∃ v6 v7, σ = [some (.ref a), some (.ref b), some (.ref c), some (.int (wayOf l d.he (rs.take i))), some (.int (hereOf l d.he (rs.take i))), some (.ref W), v6, v7] ∧
        H' W = some (.lst ((waitsOf l (rs.take i)).map V.int)))
      ⟨s0, none, none, rfl, upd_same⟩ (fun i σ H' _ ⟨s1, _⟩ => s1.seq hO) ?_ ?_⟩
    · rintro i y σ H' hi ⟨s1, v6, v7, rfl, eW⟩
      have hlt : i < rs.length := by
        have := (List.getElem?_eq_some_iff.mp hi).1
        omega
      obtain ⟨⟨n, z⟩, hn⟩ : ∃ r, rs[i]? = some r := ⟨_, List.getElem?_eq_getElem hlt⟩
      obtain ⟨v, hv, hvd⟩ := dpa_get (i := i) (d := dRow (n, z)) hzs (by rw [List.getElem?_map, hn]; rfl)
      rw [hi] at hv
      cases hv
      obtain ⟨t, rfl, htT⟩ := dp_tints hvd
      obtain ⟨k, hk⟩ : ∃ k, l[n]? = some k := ⟨_, List.getElem?_eq_getElem (hin (n, z) (List.mem_of_getElem? hn))⟩
      obtain ⟨p, hp, hpT, hpd⟩ := hat n k hk
      have ek : l.getD n (0, 0, 0) = k := getD_of hk
      have hix : ∀ {H'' : Hp}, Same H H'' → SqL K H'' b xs := fun s => s.seq hL
      refine ⟨t, _, rfl, same_sqt s1 htT, rfl, _, _, rfl, _, _, rfl, rfl, ?_⟩
      refine ⟨_, rfl, _, rfl, _, rfl, b, xs, (n : Int), .ref p, rfl, rfl, s1.seq hL, atI_nat hp, p, _, 1, _, rfl, rfl, same_sqt s1 hpT, atI_nat (j := 1) rfl, _, rfl, _, _, rfl, rfl, _, rfl, _, _, rfl, rfl, ?_⟩
      refine ⟨_, rfl, _, rfl, b, xs, (n : Int), .ref p, rfl, rfl, s1.seq hL, atI_nat hp, p, _, 1, _, rfl, rfl, same_sqt s1 hpT, atI_nat (j := 1) rfl, ?_⟩
      refine ⟨_, rfl, .inl ⟨rfl, _, SqL.of eW⟩, _, rfl, _, rfl, _, rfl, b, xs, (n : Int), .ref p, rfl, rfl, s1.seq hL, atI_nat hp, p, _, 0, _, rfl, rfl, same_sqt s1 hpT, atI_nat (j := 0) rfl, _, _, rfl, rfl, W, _, _, rfl, rfl, eW, small1000 (by rw [List.length_map]; unfold waitsOf; rw [List.length_map, List.length_take]; omega), ?_⟩
      refine ⟨same_upd s1 hW, some (.int (n : Int)), some (.int z), ?_, ?_⟩
      · rw [take_more hn, wayOf_snoc, hereOf_snoc]
        show _ = [_, _, _, some (V.int (_ + iabs ((l.getD n (0, 0, 0)).2.1 - _))), some (V.int (l.getD n (0, 0, 0)).2.1), _, _, _]
        rw [ek]
        rfl
      · rw [upd_same, take_more hn]
        unfold waitsOf
        rw [List.map_append, List.map_append]
        show _ = some (HO.lst (_ ++ [V.int (z - (l.getD n (0, 0, 0)).1)]))
        rw [ek]
    · rintro σ H' ⟨s1, v6, v7, rfl, eW⟩
      have e : rs.take zs.length = rs := List.take_of_length_le (by omega)
      rw [e] at eW
      rw [e]
      refine ⟨_, rfl, _, rfl, W, _, rfl, rfl, SqL.of eW, _, rfl, W, _, rfl, SqL.of eW, (by show 3 ≤ sizeLine; decide), fun p hp => ?_⟩
      exact q _ p (same_upd s1 (s1.free hp)) (s1.free hp) upd_same
end
end Ag

namespace Ag
open PySem PySem.Spec PyProof.Rows L2
/-! ### held, which may refuse -/
open LamX NdefX
theorem runS_lt (d : Disk) (l : List Ask) (r : Rule) (st : ArmS) (h : ∀ n ∈ st.left, n < l.length) : ∀ k, ∀ n ∈ (runS d l r k st).left, n < l.length
  | 0 => h
  | k + 1 => fun n hn => runS_lt d l r st h k n (List.mem_of_mem_erase hn)
theorem rowsS_lt (d : Disk) (l : List Ask) (r : Rule) (st : ArmS) (h : ∀ n ∈ st.left, n < l.length) : ∀ k, k ≤ st.left.length → ∀ x ∈ rowsS d l r st k, x.1 < l.length
  | 0, _ => fun x hx => by cases hx
  | k + 1, hk => fun x hx => by
    rcases List.mem_append.mp hx with hx | hx
    · exact rowsS_lt d l r st h k (by omega) x hx
    · rw [List.mem_singleton.mp hx]
      have hl := runS_left d l r st k (by omega)
      have hne : (runS d l r k st).left ≠ [] := fun e => by rw [e] at hl; simp at hl; omega
      exact runS_lt d l r st h k _ (nextN_mem hne)
theorem ruledR_lt (d : Disk) (l : List Ask) (r : Rule) : ∀ x ∈ ruledR d l r, x.1 < l.length := rowsS_lt d l r (armS0 d l) (fun n hn => List.mem_range.mp hn) l.length (by show _ ≤ (List.range l.length).length; rw [List.length_range]; exact Nat.le_refl _)
theorem ruledR_len (d : Disk) (l : List Ask) (r : Rule) : (ruledR d l r).length = l.length := rowsS_len d l r _ _
theorem ntH_idem {H H1 : Hp} (s : Same (ntH H) H1) : Same (ntH H) (ntH H1) := fun b o h => ntH_some.mpr ⟨s b o h, (ntH_some.mp h).2⟩
def heldRow (d : Disk) (l : List Ask) (r : Rule) : PyData := .tuple [.str (ruleS r), .int (costsOf d l (ruledR d l r)).1, .int (costsOf d l (ruledR d l r)).2.1, .int (costsOf d l (ruledR d l r)).2.2]
def heldV (d : Disk) (l : List Ask) (r : Rule) : List V := [.str (ruleS r), .int (costsOf d l (ruledR d l r)).1, .int (costsOf d l (ruledR d l r)).2.1, .int (costsOf d l (ruledR d l r)).2.2]
def HeldV (d : Disk) (l : List Ask) (G H : Hp) (x : V) (r : Rule) : Prop := ∃ t, x = .ref t ∧ H t = some (.tup (heldV d l r)) ∧ G t = none
abbrev s_held : Stmt := top 35
def sp_heldX (CD CB : Addr) (K : PySem.W.Frag) (T : List (Addr × Str)) : Sp := fun vs H Q E => ∃ (v u : V) (d : Disk) (l : List Ask), vs = [v, u] ∧ Dp K H v (dDisk d) ∧ Dp K H u (dAsks l) ∧ l.length ≤ 16000000 ∧ Tabs T H ∧
  Refu d l CD CB H E (∀ (H' : Hp) (D : Addr), Same (ntH H) H' → Tabs T H' → Q (.ref D) H')
theorem sc_held : FnScope ["disk", "asks", "rule"] ["disk", "asks"] (defScope s_held) := ⟨rfl, rfl, rfl, by decide +kernel, rfl, by decide +kernel, by decide +kernel⟩
section
variable {P : Program} {w : World} {K : PySem.W.Frag} {mg : Str → Option Value} {base : Heap}
theorem ok_heldX {f f1 f2 f4 f5 aR CD CB : Addr} {fd fd1 fd2 fd4 fd5 : FuncData} {T : List (Addr × Str)} (F : Fun K "held" "held" s_held f fd)
    (G_need_disk : FnOk P w K mg base (L2.CX P w) 3 f1 fd1 ["disk"] (sp_need_diskX CD K)) (C_need_disk : Cal K mg "need_disk" f1 fd1 ["disk"])
    (G_need_asks : FnOk P w K mg base (L2.CX P w) 3 f2 fd2 ["disk", "asks"] (sp_need_asksX CB K)) (C_need_asks : Cal K mg "need_asks" f2 fd2 ["disk", "asks"])
    (G_rows_by : FnOk P w K mg base CX0 9 f4 fd4 ["disk", "asks", "rule"] (sp_rows_by K T)) (C_rows_by : Cal K mg "rows_by" f4 fd4 ["disk", "asks", "rule"])
    (G_costs_of : FnOk P w K mg base CX0 1 f5 fd5 ["disk", "asks", "rows"] (sp_costs_of K)) (C_costs_of : Cal K mg "costs_of" f5 fd5 ["disk", "asks", "rows"])
    (mc_RULES : mg "RULES" = some (.ref aR)) (hR : ∀ H, SqT K H aR rulesV) : FnOk P w K mg base (L2.CX P w) 10 f fd ["disk", "asks"] (sp_heldX CD CB K T) := by
  refine F.okX sc_held (fun vs H Q E h => ?_) (fun cdv A outer s H vs Q E hr h => ?_)
  · obtain ⟨v, u, d, l, rfl, _⟩ := h
    rfl
  · obtain ⟨v, u, d, l, rfl, hd, ha, hl0, hT, r1, r2, r3⟩ := h
    have nd := sc_held.nd
    have hr_need_disk : Room 3 _ := hr.mono (by decide)
    have hr_need_asks : Room 3 _ := hr.mono (by decide)
    have hr_rows_by : Room 9 _ := hr
    have hr_costs_of : Room 1 _ := hr.mono (by decide)
    refine ⟨_, (pss_cons (ps_expr (pe_callS G_need_disk hr_need_disk (by rfl) C_need_disk.m C_need_disk.k C_need_disk.b (fun σ => passAt (takes_of rfl rfl rfl rfl) σ) (pa_cons (pv 0) pa_nil)))
      (pss_cons (ps_expr (pe_callS G_need_asks hr_need_asks (by rfl) C_need_asks.m C_need_asks.k C_need_asks.b (fun σ => passAt (takes_of rfl rfl rfl rfl) σ) (pa_cons (pv 0) (pa_cons (pv 1) pa_nil))))
      (pss_one (ps_ret (pe_lc (own := [("rule", 2)]) (g := (gName 2)) (tt := tYes) rfl nd (pi_tup (pe_glob (v := .ref aR) rfl mc_RULES rfl)) (blkOk_by (own := [("rule", 2)]) (N := ["disk", "asks", "rule"]) (sc := defScope s_held) (by decide +kernel)) (fun _ _ _ _ _ => (pg_name (i := 2) nd rfl (.inl rfl))) (fun _ _ _ _ _ => pts_nil) (fun _ _ _ _ _ => (pe_op (r := rCatT K) op_catT (pe_tup (pa_cons (pv 2) pa_nil)) (pe_call G_costs_of hr_costs_of rfl C_costs_of.m C_costs_of.k C_costs_of.b .nil pass0 (pa_cons (pv 0) (pa_cons (pv 1) (pa_cons (pe_call G_rows_by hr_rows_by rfl C_rows_by.m C_rows_by.k C_rows_by.b .nil pass0 (pa_cons (pv 0) (pa_cons (pv 1) (pa_cons (pv 2) pa_nil)))) pa_nil))))))))))), ?_⟩
    refine ⟨_, rfl, v, d, rfl, hd, fun gd => ?_, r1⟩
    refine ⟨_, rfl, _, rfl, v, u, d, l, rfl, hd, ha, hl0, fun hf => ?_, r2 gd⟩
    have ga := goodAsks_of hf
    have h40 := ga.len
    have q := r3 gd hf
    refine ⟨aR, rfl, ⟨_, hR _⟩, fun D hD => ?_⟩
    have gD : ntH H D = none := ntH_none hD
    have s1 := same_new (o := .lst []) hD
    have hlen : rulesV.length = 5 := rfl
    refine lc_tup (K := K) (a := aR) (xs := rulesV) (fun i H' => Same (ntH H) H' ∧ Tabs T H' ∧ ∃ ts : List V, H' D = some (.lst ts) ∧ ts.length = i ∧ All2 (HeldV d l (ntH H) H') ts (RLS.take i)) ⟨(ntH_sub H).trans s1, hT.ext s1, [], upd_same, rfl, trivial⟩ (fun i H' _ _ => hR H') ?_ ?_
    · rintro i x H2 hi ⟨s2, hT2, ts, eD, hts, hall⟩
      obtain ⟨r, hr2, rfl⟩ : ∃ r, RLS[i]? = some r ∧ x = V.str (ruleS r) := by
        unfold rulesV at hi
        rw [List.getElem?_map] at hi
        cases e : RLS[i]? with
        | none => rw [e] at hi; cases hi
        | some r => rw [e] at hi; exact ⟨r, rfl, (Option.some.inj hi).symm⟩
      have hi5 : i < 5 := (List.getElem?_eq_some_iff.mp hr2).1
      have hd2 : Dp K H2 v (dDisk d) := dp_same s2 (dp_nt hd)
      have ha2 : Dp K H2 u (dAsks l) := dp_same s2 (dp_nt ha)
      refine ⟨rfl, _, rfl, (by show 1 ≤ sizeLine; decide), fun t1 ht1 => ?_⟩
      have s3 := same_new (o := HO.tup [V.str (ruleS r)]) ht1
      have e1 : upd H2 t1 (.tup [V.str (ruleS r)]) t1 = some (.tup [V.str (ruleS r)]) := upd_same
      have eD1 := s3 _ _ eD
      have hT3 := hT2.ext s3
      have hd3 := dp_same s3 hd2
      have ha3 := dp_same s3 ha2
      have s03 := s2.trans s3
      revert e1 eD1 hT3 hd3 ha3 s03 s3
      generalize upd H2 t1 (.tup [V.str (ruleS r)]) = H3
      intro s3 e1 eD1 hT3 hd3 ha3 s03
      refine ⟨_, rfl, _, rfl, _, rfl, _, rfl, _, rfl, v, u, d, l, r, rfl, hd3, ha3, gd, h40, hT3, fun H4 c xs s4 hT4 gc hc hrows => ?_⟩
      have n4 : ∀ {b : Addr} {o : HO}, H3 b = some o → (∀ ps, o ≠ .tbl ps) → H4 b = some o := fun h n => s4 _ _ (ntH_some.mpr ⟨h, n⟩)
      have s34 : Same (ntH H) H4 := fun b o h => s4 b o (ntH_some.mpr ⟨s03 b o h, (ntH_some.mp h).2⟩)
      refine ⟨v, u, .ref c, d, l, ruledR d l r, rfl, dp_same s4 (dp_nt hd3), dp_same s4 (dp_nt ha3), .lst (.inl (.inl hc)) (dpa_same fr_sub hrows), ruledR_lt d l r, by rw [ruledR_len]; omega, fun H5 t s5 ht0 ht => ?_⟩
      have e15 : H5 t1 = some (.tup [V.str (ruleS r)]) := s5 _ _ (n4 e1 (by intro _ q; cases q))
      have eD5 : H5 D = some (.lst ts) := s5 _ _ (n4 eD1 (by intro _ q; cases q))
      have hT5 := hT4.ext s5
      refine ⟨t1, t, _, _, rfl, rfl, SqT.of e15, SqT.of ht, by simp, by show 1 + 3 ≤ sizeLine; decide, (fun z => absurd z (by simp)), fun _ p hp => ?_⟩
      have s6 := same_new (o := HO.tup ([V.str (ruleS r)] ++ [(costsOf d l (ruledR d l r)).1, (costsOf d l (ruledR d l r)).2.1, (costsOf d l (ruledR d l r)).2.2].map V.int)) hp
      have s06 : Same (ntH H) (upd H5 p (HO.tup ([V.str (ruleS r)] ++ [(costsOf d l (ruledR d l r)).1, (costsOf d l (ruledR d l r)).2.1, (costsOf d l (ruledR d l r)).2.2].map V.int))) := s34.trans (s5.trans s6)
      have eD6 := s6 _ _ eD5
      have npD : p ≠ D := fun e => by rw [e, eD5] at hp; cases hp
      have gp : ntH H p = none := (s34.trans s5).free hp
      refine ⟨ts, eD6, small1000 (by omega), same_upd s06 gD, tabs_upd (hT5.ext s6) eD6 (by intro _ q; cases q) (by intro _ q; cases q), ts ++ [.ref p], upd_same, by rw [List.length_append, hts]; rfl, ?_⟩
      rw [take_more hr2]
      refine all2_snoc ⟨p, rfl, by rw [upd_ne npD, upd_same]; rfl, gp⟩ (all2_mono (fun y rr hy => ?_) hall)
      obtain ⟨t', e, h1, h2⟩ := hy
      have n3 : t' ≠ D := ne_of h1 eD (by intro q; cases q)
      exact ⟨t', e, by rw [upd_ne n3]; exact s6 _ _ (s5 _ _ (n4 (s3 _ _ h1) (by intro _ q; cases q))), h2⟩
    · rintro H2 ⟨s2, hT2, ts, eD, hts, hall⟩
      exact q H2 D s2 hT2
end
end Ag

namespace Ag
open PySem PySem.Spec PyProof.Rows L2
/-! ### the word of a refusal -/
open LamX NdefX
/-- what is refused, and its field -/
inductive WK where
  | ask (n : Int) | disk (y : Str) | order | rule | many
def WK.ix : WK → Nat
  | .ask _ => 0 | .disk _ => 1 | .order => 2 | .rule => 3 | .many => 5
def WK.nm : WK → Str
  | .ask _ => "ask" | .disk _ => "disk" | .order => "order" | .rule => "rule" | .many => "many"
def WK.fv : WK → V
  | .ask n => .int n | .disk y => .str y | _ => .non
def wordO : Option WK → List V
  | some o => [.str o.nm, o.fv]
  | none => [.str "", .non]
/-- the classes -/
structure Cls6 where
  B : Addr
  D : Addr
  O : Addr
  R : Addr
  T : Addr
  M : Addr
def Cls6.of (c : Cls6) : WK → Addr
  | .ask _ => c.B | .disk _ => c.D | .order => c.O | .rule => c.R | .many => c.M
/-- the error that bears it -/
def ErrAt (c : Cls6) (o : WK) (cls : Value) (d : Option Addr) (H : Hp) : Prop := cls = .ref (c.of o) ∧ match o with
  | .ask n => ∃ e, d = some e ∧ H e = some (.xd [("number", .int n)])
  | .disk y => ∃ e, d = some e ∧ H e = some (.xd [("word", .str y)])
  | _ => d = none
/-- what the law asks of an own error: the i-th of the six -/
structure ErrW (K : PySem.W.Frag) (CA : Addr) (c : Cls6) (C : Addr) (i : Nat) : Prop where
  x : ExcX K C
  arm : PySem.W.exmOne K (.ref C) (.ref CA) = some true
  k0 : PySem.W.kitOne K (.ref C) (.ref c.B) = some (decide (i = 0))
  k1 : PySem.W.kitOne K (.ref C) (.ref c.D) = some (decide (i = 1))
  k2 : PySem.W.kitOne K (.ref C) (.ref c.O) = some (decide (i = 2))
  k3 : PySem.W.kitOne K (.ref C) (.ref c.R) = some (decide (i = 3))
  k4 : PySem.W.kitOne K (.ref C) (.ref c.T) = some (decide (i = 4))
  k5 : PySem.W.kitOne K (.ref C) (.ref c.M) = some (decide (i = 5))
  ve : PySem.W.kitOne K (.ref C) (.type "ValueError") = some true
structure FldW (K : PySem.W.Frag) (C : Addr) (f : Str) : Prop where
  fld : XfC K C
  no : PySem.W.findIn K (.ref C) f = some none
section
variable {X : Cx}
/-- xs.index(y), the kit's facts named -/
theorem pe_idx {K : PySem.W.Frag} {o e : Expr} {to : TE} {t : TA} {apos cpos : Pos} (ho : PE X o to) (ha : PA X [e] t) (hK : X.K = K := by rfl)
    (hbase : attributeBase o "index" X.env (eval o X.env) = eval o X.env := by rfl)
    (hfew : ((backTo cpos (starEach [e] X.env)).all (fun x => !x.1) && (backToKw cpos (keywordEach [] X.env)).all (fun x => x.1.isSome)
      && decide ([e].length + ([] : List Keyword).length + (if ([] : List Keyword).isEmpty then 0 else 1) < 30)) = true := by rfl)
    (hline : (apos.endLine == cpos.line) = true := by rfl) (hs : starEach [e] X.env = (false, eval e X.env) :: starEach [] X.env := by rfl) (hplain : (backTo cpos (starEach [] X.env)).any (·.1) = false := by rfl) :
    PE X (.Call (.Attribute o "index" apos) [e] [] cpos) (tBM K "list" (rIndex K) to t) := by
  subst hK
  exact pe_bm PySem.F.plainAttrs_list PySem.F.slot_list_index PySem.F.type_list_index mt_index ho ha hbase hfew hline hs hplain
end
abbrev s_l_word : Stmt := top 46
theorem sc_l_word : FnScope ["_law_work", "e", "_law_kinds", "_law_word_here"] ["_law_work"] (defScope s_l_word) := ⟨rfl, rfl, rfl, by decide +kernel, rfl, by decide +kernel, by decide +kernel⟩
/-- a def that calls what it is handed, and tells the word -/
structure WordOk (P : Program) (w : World) (K : PySem.W.Frag) (mg : Str → Option Value) (base : Heap) (k : Nat) (g : Addr) (c : Cls6) : Prop where
  run : ∀ (A : Around) (outer : List Env) (s : Shared) (H : Hp) (f : Addr) (F : NF) (params : Arguments) (body : Expr) (Qt : VK) (Et : XK) (Q : VK), Room (k + 1) A → Env0 P w K mg base A outer s H → H f = some (LamO f F params body) →
    (∀ (A' : Around) (outer' : List Env) (s' : Shared), Room k A' → Un (frs outer) [] H H s.heap s'.heap → Env0 P w K mg base A' outer' s' H → codeAny (model P w) A' (.call (.ref f) ⟨[], []⟩) (CR (L2.CX P w) outer' P w H s' Qt Et) s') →
    (∀ v H' H'' p, Qt v H' → Same H' H'' → H'' p = some (.tup (wordO none)) → Q (.ref p) H'') →
    (∀ cls d H', Et cls d H' → ∃ o, ErrAt c o cls d H' ∧ ∀ H'' p, Same H' H'' → H'' p = some (.tup (wordO (some o))) → Q (.ref p) H'') →
    codeAny (model P w) A (.call (.ref g) ⟨[.ref f], []⟩) (CR CX0 outer P w H s Q E0) s
section
variable {P : Program} {w : World} {K : PySem.W.Frag} {mg : Str → Option Value} {base : Heap}
set_option maxHeartbeats 16000000 in
theorem ok_l_word {k : Nat} {g CA : Addr} {fd : FuncData} {c : Cls6} (F : Fun K "_law_word" "_law_word" s_l_word g fd) (bG : Binds K fd ["_law_work"] [])
    (LB : ErrW K CA c c.B 0) (LD : ErrW K CA c c.D 1) (LO : ErrW K CA c c.O 2) (LR : ErrW K CA c c.R 3) (LM : ErrW K CA c c.M 5) (fB : FldW K c.B "number") (fD : FldW K c.D "word") (fT : FldW K c.T "row")
    (mA : mg "ArmError" = some (.ref CA)) (mB : mg "BadAsk" = some (.ref c.B)) (mD : mg "BadDisk" = some (.ref c.D)) (mO : mg "BadOrder" = some (.ref c.O)) (mR : mg "BadRule" = some (.ref c.R)) (mT : mg "BadText" = some (.ref c.T)) (mM : mg "TooMany" = some (.ref c.M))
    (mb_isinstance : mg "isinstance" = none) (mb_ValueError : mg "ValueError" = none) : WordOk P w K mg base k g c := by
  refine ⟨fun A outer s H f FF params body Qt Et Q hr e0 hf hrun hQ hE => ?_⟩
  obtain ⟨oc, od, kV, doc, pm, an, cdv, ct, osl, rfl, lk, hcd⟩ := F.ex
  have KX : K.In s.heap := e0.mod.kin.keeps fun b o e => (e0.bs b o e).1
  have nd := sc_l_word.nd
  refine run_ofS (N := ["_law_work", "e", "_law_kinds", "_law_word_here"]) (ps := ["_law_work"]) (us := [.ref f]) (vs := [.ref f]) lk hcd sc_l_word hr e0 (bG s [.ref f] KX rfl) (.cons rfl .nil) rfl fun hr' => ?_
  suffices hs : ∃ t, PSs (cxOf CX0 P w K mg base ["_law_work", "e", "_law_kinds", "_law_word_here"] "_law_word" (defScope s_l_word) g cdv A outer s H E0).nox (defBody s_l_word) t ∧ t { nx := fun _ H' => Q .non H', rt := Q } (L2.start ["_law_work", "e", "_law_kinds", "_law_word_here"] [.ref f]) H by
    obtain ⟨t, h1, h2⟩ := hs
    exact ⟨t, h1.nox, h2⟩
  refine ⟨_, (pss_cons (ps_try_as (i := 1) (Wout := fun _ _ _ _ => False) rfl rfl nd rfl rfl ⟨rfl, by decide, Or.inl mA⟩ L2.takes0
      (fun W pn xe tk _ => (pss_one (ps_expr (pe_thunk (i := 0) (f := f) (Qt := Qt) (Et := Et) hf (fun pins σ s1 I1 => hrun _ _ s1 hr' I1.base I1.env0) tk rfl (.inl rfl)))))
      (fun a oe cls dd pn hz hf => (pss_cons (ps_set (i := 2) nd rfl (.inl rfl) (pe_lst (pa_cons (pe_callB (call_isX hz hf) (by rfl) mb_isinstance (by decide +kernel) (pa_cons (pv 1) (pa_cons (pe_glob (v := .ref c.B) rfl mB rfl) pa_nil))) (pa_cons (pe_callB (call_isX hz hf) (by rfl) mb_isinstance (by decide +kernel) (pa_cons (pv 1) (pa_cons (pe_glob (v := .ref c.D) rfl mD rfl) pa_nil))) (pa_cons (pe_callB (call_isX hz hf) (by rfl) mb_isinstance (by decide +kernel) (pa_cons (pv 1) (pa_cons (pe_glob (v := .ref c.O) rfl mO rfl) pa_nil))) (pa_cons (pe_callB (call_isX hz hf) (by rfl) mb_isinstance (by decide +kernel) (pa_cons (pv 1) (pa_cons (pe_glob (v := .ref c.R) rfl mR rfl) pa_nil))) pa_nil))))))
      (pss_cons (ps_set (i := 2) nd rfl (.inl rfl) (pe_op op_cat (pv 2) (pe_lst (pa_cons (pe_callB (call_isX hz hf) (by rfl) mb_isinstance (by decide +kernel) (pa_cons (pv 1) (pa_cons (pe_glob (v := .ref c.T) rfl mT rfl) pa_nil))) (pa_cons (pe_callB (call_isX hz hf) (by rfl) mb_isinstance (by decide +kernel) (pa_cons (pv 1) (pa_cons (pe_glob (v := .ref c.M) rfl mM rfl) pa_nil))) pa_nil)))))
      (pss_cons (ps_if (PW.pt (pw_or (pt_not (pt_val (pe_callB (call_isX hz hf) (by rfl) mb_isinstance (by decide +kernel) (pa_cons (pv 1) (pa_cons (pe_bltn (v := .ty "ValueError") rfl mb_ValueError (by decide +kernel) rfl) pa_nil))))) (pw_or1 (pt_cmpR op_ne (pe_cnt (K := K) (pv 2) (pa_cons pe_bl pa_nil)) pe_int (nomark _))))) (pss_one (ps_ret pe_non)) pss_nil)
      (pss_cons (ps_set (i := 3) nd rfl (.inl rfl) (pe_ix (r := rIxL K) ix_list (pe_lst (pa_cons pe_str (pa_cons pe_str (pa_cons pe_str (pa_cons pe_str (pa_cons pe_str (pa_cons pe_str pa_nil))))))) (pe_idx (K := K) (pv 2) (pa_cons pe_bl pa_nil)) (fun _ _ => rfl)))
      (pss_cons (ps_if (pt_cmpR op_eq (pv 3) pe_str (nomark _)) (pss_one (ps_ret (pe_tup (pa_cons (pv 3) (pa_cons (pe_xf fB.fld fB.no hz hf (pv 1)) pa_nil))))) pss_nil)
      (pss_cons (ps_if (pt_cmpR op_eq (pv 3) pe_str (nomark _)) (pss_one (ps_ret (pe_tup (pa_cons (pv 3) (pa_cons (pe_xf fD.fld fD.no hz hf (pv 1)) pa_nil))))) pss_nil)
      (pss_one (ps_ret (pe_tup (pa_cons (pv 3) (pa_cons (pe_ifExp (pt_cmpR op_eq (pv 3) pe_str (nomark _)) (pe_xf fT.fld fT.no hz hf (pv 1)) pe_non) pa_nil)))))))))))))
    (pss_one (ps_ret (pe_tup (pa_cons pe_str (pa_cons pe_non pa_nil)))))), ?_⟩
  refine ⟨rfl, rfl, fun v H1 hq => ?_, fun cls d H1 he => ?_⟩
  · exact ⟨(by show 2 ≤ sizeLine; decide), fun p hp => hQ _ _ _ _ hq (same_new hp) upd_same⟩
  · obtain ⟨o, ⟨rfl, hd⟩, hw⟩ := hE _ _ _ he
    have L : ErrW K CA c (c.of o) o.ix := by cases o <;> assumption
    have hdd : DictOf d H1 := by
      cases o with
      | ask n => obtain ⟨e, rfl, hx⟩ := hd; exact .inr ⟨e, _, rfl, hx⟩
      | disk y => obtain ⟨e, rfl, hx⟩ := hd; exact .inr ⟨e, _, rfl, hx⟩
      | order => exact .inl hd
      | rule => exact .inl hd
      | many => exact .inl hd
    have ddS : ∀ {H2 : Hp}, Same H1 H2 → DictOf d H2 := fun s => hdd.elim .inl fun ⟨dd, fs, e1, e2⟩ => .inr ⟨dd, fs, e1, s _ _ e2⟩
    refine ⟨true, L.arm, fun _ a ha => ?_, fun h => by cases h⟩
    refine ⟨_, rfl, c.of o, .ref c.B, .ref c.B, _, rfl, rfl, L.x, hdd, .own _, L.k0, ?_⟩
    refine ⟨_, rfl, c.of o, .ref c.D, .ref c.D, _, rfl, rfl, L.x, hdd, .own _, L.k1, ?_⟩
    refine ⟨_, rfl, c.of o, .ref c.O, .ref c.O, _, rfl, rfl, L.x, hdd, .own _, L.k2, ?_⟩
    refine ⟨_, rfl, c.of o, .ref c.R, .ref c.R, _, rfl, rfl, L.x, hdd, .own _, L.k3, ?_⟩
    refine ⟨(by show 4 ≤ sizeLine; decide), fun L4 hL4 => ?_⟩
    have s1 := same_new (o := HO.lst [.bl (decide (o.ix = 0)), .bl (decide (o.ix = 1)), .bl (decide (o.ix = 2)), .bl (decide (o.ix = 3))]) hL4
    refine ⟨_, rfl, ?_⟩
    refine ⟨_, rfl, c.of o, .ref c.T, .ref c.T, _, rfl, rfl, L.x, ddS s1, .own _, L.k4, ?_⟩
    refine ⟨_, rfl, c.of o, .ref c.M, .ref c.M, _, rfl, rfl, L.x, ddS s1, .own _, L.k5, ?_⟩
    refine ⟨(by show 2 ≤ sizeLine; decide), fun L2 hL2 => ?_⟩
    have s2 := same_new (o := HO.lst [.bl (decide (o.ix = 4)), .bl (decide (o.ix = 5))]) hL2
    refine ⟨L4, L2, _, _, rfl, rfl, s2 _ _ upd_same, upd_same, (by show 4 + 2 ≤ sizeLine; decide), fun Lk hLk => ?_⟩
    have s3 := same_new (o := HO.lst ([.bl (decide (o.ix = 0)), .bl (decide (o.ix = 1)), .bl (decide (o.ix = 2)), .bl (decide (o.ix = 3))] ++ [.bl (decide (o.ix = 4)), .bl (decide (o.ix = 5))])) hLk
    have s14 := s1.trans (s2.trans s3)
    have eK := upd_same (H := upd (upd H1 L4 (.lst [.bl (decide (o.ix = 0)), .bl (decide (o.ix = 1)), .bl (decide (o.ix = 2)), .bl (decide (o.ix = 3))])) L2 (.lst [.bl (decide (o.ix = 4)), .bl (decide (o.ix = 5))])) (a := Lk) (o := HO.lst ([.bl (decide (o.ix = 0)), .bl (decide (o.ix = 1)), .bl (decide (o.ix = 2)), .bl (decide (o.ix = 3))] ++ [.bl (decide (o.ix = 4)), .bl (decide (o.ix = 5))]))
    revert s14 eK
    generalize upd (upd (upd H1 L4 (.lst [.bl (decide (o.ix = 0)), .bl (decide (o.ix = 1)), .bl (decide (o.ix = 2)), .bl (decide (o.ix = 3))])) L2 (.lst [.bl (decide (o.ix = 4)), .bl (decide (o.ix = 5))])) Lk (.lst ([.bl (decide (o.ix = 0)), .bl (decide (o.ix = 1)), .bl (decide (o.ix = 2)), .bl (decide (o.ix = 3))] ++ [.bl (decide (o.ix = 4)), .bl (decide (o.ix = 5))])) = Hk
    intro s14 eK
    refine ⟨_, rfl, c.of o, .ty "ValueError", .type "ValueError", true, rfl, rfl, L.x, ddS s14, .ty _, L.ve, true, rfl, iteF ?_⟩
    rcases o with n | y | _ | _ | _
    · replace eK : Hk Lk = some (.lst [.bl true, .bl false, .bl false, .bl false, .bl false, .bl false]) := eK
      refine ⟨_, rfl, .inl ⟨rfl, _, SqL.of eK⟩, Lk, [.bl true, .bl false, .bl false, .bl false, .bl false, .bl false], .bl true, rfl, rfl, SqL.of eK, rfl, rfl, rfl, _, rfl, ifnd_t rfl ?_⟩
      refine ⟨(by show 6 ≤ sizeLine; decide), fun Ln hLn => ?_⟩
      have s5 := same_new (o := HO.lst [.str (Str.ofString "ask"), .str (Str.ofString "disk"), .str (Str.ofString "order"), .str (Str.ofString "rule"), .str (Str.ofString "text"), .str (Str.ofString "many")]) hLn
      have eK5 := s5 _ _ eK
      refine ⟨_, rfl, .inl ⟨rfl, _, SqL.of eK5⟩, Lk, [.bl true, .bl false, .bl false, .bl false, .bl false, .bl false], .bl true, 0, .bl true, rfl, rfl, SqL.of eK5, rfl, rfl, rfl, rfl, (fun m z hm hz => by exact absurd hm (Nat.not_lt_zero _)), ?_⟩
      refine ⟨Ln, _, 0, _, rfl, rfl, SqL.of upd_same, rfl, ?_⟩
      refine ⟨_, rfl, rfl, _, rfl, iteT ?_⟩
      obtain ⟨e, rfl, hx⟩ := hd
      refine ⟨_, rfl, _, rfl, rfl, rfl, e, _, .int n, rfl, s5 _ _ (s14 _ _ hx), rfl, (by show 2 ≤ sizeLine; decide), fun p hp => ?_⟩
      exact hw _ _ (s14.trans (s5.trans (same_new hp))) upd_same
    · replace eK : Hk Lk = some (.lst [.bl false, .bl true, .bl false, .bl false, .bl false, .bl false]) := eK
      refine ⟨_, rfl, .inl ⟨rfl, _, SqL.of eK⟩, Lk, [.bl false, .bl true, .bl false, .bl false, .bl false, .bl false], .bl true, rfl, rfl, SqL.of eK, rfl, rfl, rfl, _, rfl, ifnd_t rfl ?_⟩
      refine ⟨(by show 6 ≤ sizeLine; decide), fun Ln hLn => ?_⟩
      have s5 := same_new (o := HO.lst [.str (Str.ofString "ask"), .str (Str.ofString "disk"), .str (Str.ofString "order"), .str (Str.ofString "rule"), .str (Str.ofString "text"), .str (Str.ofString "many")]) hLn
      have eK5 := s5 _ _ eK
      refine ⟨_, rfl, .inl ⟨rfl, _, SqL.of eK5⟩, Lk, [.bl false, .bl true, .bl false, .bl false, .bl false, .bl false], .bl true, 1, .bl true, rfl, rfl, SqL.of eK5, rfl, rfl, rfl, rfl, (fun m z hm hz => by rcases (by omega : m = 0) with rfl <;> (cases hz; rfl)), ?_⟩
      refine ⟨Ln, _, 1, _, rfl, rfl, SqL.of upd_same, rfl, ?_⟩
      refine ⟨_, rfl, rfl, _, rfl, iteF ?_⟩
      refine ⟨_, rfl, rfl, _, rfl, iteT ?_⟩
      obtain ⟨e, rfl, hx⟩ := hd
      refine ⟨_, rfl, _, rfl, rfl, rfl, e, _, .str y, rfl, s5 _ _ (s14 _ _ hx), rfl, (by show 2 ≤ sizeLine; decide), fun p hp => ?_⟩
      exact hw _ _ (s14.trans (s5.trans (same_new hp))) upd_same
    · replace eK : Hk Lk = some (.lst [.bl false, .bl false, .bl true, .bl false, .bl false, .bl false]) := eK
      refine ⟨_, rfl, .inl ⟨rfl, _, SqL.of eK⟩, Lk, [.bl false, .bl false, .bl true, .bl false, .bl false, .bl false], .bl true, rfl, rfl, SqL.of eK, rfl, rfl, rfl, _, rfl, ifnd_t rfl ?_⟩
      refine ⟨(by show 6 ≤ sizeLine; decide), fun Ln hLn => ?_⟩
      have s5 := same_new (o := HO.lst [.str (Str.ofString "ask"), .str (Str.ofString "disk"), .str (Str.ofString "order"), .str (Str.ofString "rule"), .str (Str.ofString "text"), .str (Str.ofString "many")]) hLn
      have eK5 := s5 _ _ eK
      refine ⟨_, rfl, .inl ⟨rfl, _, SqL.of eK5⟩, Lk, [.bl false, .bl false, .bl true, .bl false, .bl false, .bl false], .bl true, 2, .bl true, rfl, rfl, SqL.of eK5, rfl, rfl, rfl, rfl, (fun m z hm hz => by rcases (by omega : m = 0 ∨ m = 1) with rfl | rfl <;> (cases hz; rfl)), ?_⟩
      refine ⟨Ln, _, 2, _, rfl, rfl, SqL.of upd_same, rfl, ?_⟩
      refine ⟨_, rfl, rfl, _, rfl, iteF ?_⟩
      refine ⟨_, rfl, rfl, _, rfl, iteF ?_⟩
      refine ⟨_, rfl, _, rfl, rfl, _, rfl, iteF ?_⟩
      refine ⟨(by show 2 ≤ sizeLine; decide), fun p hp => ?_⟩
      exact hw _ _ (s14.trans (s5.trans (same_new hp))) upd_same
    · replace eK : Hk Lk = some (.lst [.bl false, .bl false, .bl false, .bl true, .bl false, .bl false]) := eK
      refine ⟨_, rfl, .inl ⟨rfl, _, SqL.of eK⟩, Lk, [.bl false, .bl false, .bl false, .bl true, .bl false, .bl false], .bl true, rfl, rfl, SqL.of eK, rfl, rfl, rfl, _, rfl, ifnd_t rfl ?_⟩
      refine ⟨(by show 6 ≤ sizeLine; decide), fun Ln hLn => ?_⟩
      have s5 := same_new (o := HO.lst [.str (Str.ofString "ask"), .str (Str.ofString "disk"), .str (Str.ofString "order"), .str (Str.ofString "rule"), .str (Str.ofString "text"), .str (Str.ofString "many")]) hLn
      have eK5 := s5 _ _ eK
      refine ⟨_, rfl, .inl ⟨rfl, _, SqL.of eK5⟩, Lk, [.bl false, .bl false, .bl false, .bl true, .bl false, .bl false], .bl true, 3, .bl true, rfl, rfl, SqL.of eK5, rfl, rfl, rfl, rfl, (fun m z hm hz => by rcases (by omega : m = 0 ∨ m = 1 ∨ m = 2) with rfl | rfl | rfl <;> (cases hz; rfl)), ?_⟩
      refine ⟨Ln, _, 3, _, rfl, rfl, SqL.of upd_same, rfl, ?_⟩
      refine ⟨_, rfl, rfl, _, rfl, iteF ?_⟩
      refine ⟨_, rfl, rfl, _, rfl, iteF ?_⟩
      refine ⟨_, rfl, _, rfl, rfl, _, rfl, iteF ?_⟩
      refine ⟨(by show 2 ≤ sizeLine; decide), fun p hp => ?_⟩
      exact hw _ _ (s14.trans (s5.trans (same_new hp))) upd_same
    · replace eK : Hk Lk = some (.lst [.bl false, .bl false, .bl false, .bl false, .bl false, .bl true]) := eK
      refine ⟨_, rfl, .inl ⟨rfl, _, SqL.of eK⟩, Lk, [.bl false, .bl false, .bl false, .bl false, .bl false, .bl true], .bl true, rfl, rfl, SqL.of eK, rfl, rfl, rfl, _, rfl, ifnd_t rfl ?_⟩
      refine ⟨(by show 6 ≤ sizeLine; decide), fun Ln hLn => ?_⟩
      have s5 := same_new (o := HO.lst [.str (Str.ofString "ask"), .str (Str.ofString "disk"), .str (Str.ofString "order"), .str (Str.ofString "rule"), .str (Str.ofString "text"), .str (Str.ofString "many")]) hLn
      have eK5 := s5 _ _ eK
      refine ⟨_, rfl, .inl ⟨rfl, _, SqL.of eK5⟩, Lk, [.bl false, .bl false, .bl false, .bl false, .bl false, .bl true], .bl true, 5, .bl true, rfl, rfl, SqL.of eK5, rfl, rfl, rfl, rfl, (fun m z hm hz => by rcases (by omega : m = 0 ∨ m = 1 ∨ m = 2 ∨ m = 3 ∨ m = 4) with rfl | rfl | rfl | rfl | rfl <;> (cases hz; rfl)), ?_⟩
      refine ⟨Ln, _, 5, _, rfl, rfl, SqL.of upd_same, rfl, ?_⟩
      refine ⟨_, rfl, rfl, _, rfl, iteF ?_⟩
      refine ⟨_, rfl, rfl, _, rfl, iteF ?_⟩
      refine ⟨_, rfl, _, rfl, rfl, _, rfl, iteF ?_⟩
      refine ⟨(by show 2 ≤ sizeLine; decide), fun p hp => ?_⟩
      exact hw _ _ (s14.trans (s5.trans (same_new hp))) upd_same
end
end Ag

namespace Ag
open PySem PySem.Spec PyProof.Rows L2
/-! ### how the word is asked -/
open LamX NdefX
abbrev QtO (T : List (Addr × Str)) (H : Hp) (o : Option WK) : VK := fun _ H' => o = none ∧ Same (ntH H) H' ∧ Tabs T H'
abbrev EtO (T : List (Addr × Str)) (c : Cls6) (H : Hp) (o : Option WK) : XK := fun cls d H' => ∃ kd, o = some kd ∧ ErrAt c kd cls d H' ∧ Same (ntH H) H' ∧ Tabs T H'
/-- at f stands what can be called, and so it ends -/
def WorkAt (X : Cx) (k : Nat) (T : List (Addr × Str)) (c : Cls6) (σ : L2.St) (H : Hp) (f : Addr) (o : Option WK) : Prop := ∃ F params body, H f = some (LamO f F params body) ∧ RunsAt X k σ H f (QtO T H o) (EtO T c H o)
def ThkAt (P : Program) (w : World) (K : PySem.W.Frag) (mg : Str → Option Value) (base : Heap) (k : Nat) (T : List (Addr × Str)) (c : Cls6) (H : Hp) (f : Addr) (o : Option WK) : Prop := ∃ F params body, H f = some (LamO f F params body) ∧
  ∀ (A : Around) (outer : List Env) (s : Shared), Room k A → Env0 P w K mg base A outer s H → codeAny (model P w) A (.call (.ref f) ⟨[], []⟩) (CR (L2.CX P w) outer P w H s (QtO T H o) (EtO T c H o)) s
theorem ThkAt.work {X : Cx} {k : Nat} {T : List (Addr × Str)} {c : Cls6} {σ : L2.St} {H : Hp} {f : Addr} {o : Option WK} (h : ThkAt X.prog X.w X.K X.mg X.base k T c H f o) : WorkAt X k T c σ H f o := by
  obtain ⟨F, params, body, h1, h2⟩ := h
  exact ⟨F, params, body, h1, fun _ _ _ A outer s' hr _ e0 => h2 A outer s' hr e0⟩
section
variable {X : Cx} {k : Nat} {g : Addr} {c : Cls6} {T : List (Addr × Str)} {x : Str} {p pos : Pos} {e : Expr} {te : TE}
theorem word_core {pins : List (Addr × Obj)} {σ : L2.St} {H : Hp} {s : Shared} {f : Addr} {o : Option WK} {Q : VK} (W : WordOk X.prog X.w X.K X.mg X.base k g c) (hr : Room (k + 1) X.A) (I : Inv X pins σ H s) (h : WorkAt X k T c σ H f o)
    (q : ∀ H' p, Same (ntH H) H' → Tabs T H' → H' p = some (.tup (wordO o)) → Q (.ref p) H') : wpAny (model X.prog X.w) X.A (call (.ref g) [.ref f]) (EP X pins σ Q) X.xe s := by
  obtain ⟨F, params, body, hf, hrun⟩ := h
  refine wpAny_call (codeAny_mono (W.run X.A X.stack s H f F params body _ _ Q hr I.env0 hf (fun A' outer' s' hr' un e0 => hrun pins s I A' outer' s' hr' un e0)
    (fun v H' H'' p hq s2 hp => ?_) (fun cls d H' he => ?_)) fun r s' hq => ?_)
  · obtain ⟨ho, s1, t1⟩ := hq
    subst ho
    exact q H'' p (s1.trans s2) (t1.ext s2) hp
  · obtain ⟨kd, ho, he, s1, t1⟩ := he
    subst ho
    exact ⟨kd, he, fun H'' p s2 hp => q H'' p (s1.trans s2) (t1.ext s2) hp⟩
  · cases r with
    | error e => exact (show False from hq).elim
    | ok fl =>
      cases fl with
      | ret u => exact I.after hq
      | next => exact False.elim hq
      | brk => exact False.elim hq
      | cont => exact False.elim hq
def tWordX (X : Cx) (k : Nat) (T : List (Addr × Str)) (c : Cls6) (te : TE) : TE := fun σ H Q => te σ H fun v H1 => ∃ f o, v = .ref f ∧ WorkAt X k T c σ H1 f o ∧ ∀ H' p, Same (ntH H1) H' → Tabs T H' → H' p = some (.tup (wordO o)) → Q (.ref p) H'
/-- the word of a name's thing -/
theorem pe_wordX (W : WordOk X.prog X.w X.K X.mg X.base k g c) (hr : Room (k + 1) X.A) (hg : Gl X x) (hm : X.mg x = some (.ref g)) (hk : PySem.W.keepIn X.K (.ref g) = true) (he0 : PE X e te) (hdb : (x == ("__debug__" : Str)) = false := by decide)
    (hs0 : starEach [e] X.env = (false, eval e X.env) :: starEach [] X.env := by rfl) (hpl : (backTo pos (starEach [] X.env)).any (·.1) = false := by rfl) : PE X (.Call (.Name x p) [e] [] pos) (tWordX X k T c te) := by
  refine ⟨fun pins s σ H Q I h => ?_⟩
  refine wpAny_Call_Name_kw (ld_glob I hg hm ?_ hdb)
  refine PySem.W.callWith_K (h₀ := X.base) I.ok.mod.kin hk (thn ((pa_cons he0 pa_nil hs0).run pos pins s σ H (one1 _) I h) fun us s1 ⟨vs, H1, I1, r1, q1⟩ => ⟨I1.kIn, ?_⟩) hs0 hpl
  obtain ⟨v, rfl, f, o, rfl, hw, q⟩ := one1_of q1
  obtain ⟨u, rfl, ru⟩ := vals1 r1
  obtain rfl : u = .ref f := ru
  exact word_core W hr I1 hw q
section
variable {P : Program} {w : World} {K : PySem.W.Frag} {mg : Str → Option Value} {base : Heap}
def tWordC (P : Program) (w : World) (K : PySem.W.Frag) (mg : Str → Option Value) (base : Heap) (k : Nat) (T : List (Addr × Str)) (c : Cls6) (te : TE) : TE := fun σ H Q => te σ H fun v H1 => ∃ f o, v = .ref f ∧ ThkAt P w K mg base k T c H1 f o ∧ ∀ H' p, Same (ntH H1) H' → Tabs T H' → H' p = some (.tup (wordO o)) → Q (.ref p) H'
/-- .. in a comprehension's block -/
theorem pe_wordC (W : WordOk P w K mg base k g c) (hr : Room (k + 1) X.A) (hg : Gl X x) (hm : mg x = some (.ref g)) (hk : PySem.W.keepIn K (.ref g) = true) (he0 : PE X e te) (h1 : X.prog = P := by rfl) (h2 : X.w = w := by rfl) (h3 : X.K = K := by rfl) (h4 : X.mg = mg := by rfl) (h5 : X.base = base := by rfl) (hdb : (x == ("__debug__" : Str)) = false := by decide)
    (hs0 : starEach [e] X.env = (false, eval e X.env) :: starEach [] X.env := by rfl) (hpl : (backTo pos (starEach [] X.env)).any (·.1) = false := by rfl) : PE X (.Call (.Name x p) [e] [] pos) (tWordC P w K mg base k T c te) := by
  subst h1 h2 h3 h4 h5
  refine ⟨fun pins s σ H Q I h => ?_⟩
  refine wpAny_Call_Name_kw (ld_glob I hg hm ?_ hdb)
  refine PySem.W.callWith_K (h₀ := X.base) I.ok.mod.kin hk (thn ((pa_cons he0 pa_nil hs0).run pos pins s σ H (one1 _) I h) fun us s1 ⟨vs, H1, I1, r1, q1⟩ => ⟨I1.kIn, ?_⟩) hs0 hpl
  obtain ⟨v, rfl, f, o, rfl, hw, q⟩ := one1_of q1
  obtain ⟨u, rfl, ru⟩ := vals1 r1
  obtain rfl : u = .ref f := ru
  exact word_core W hr I1 hw.work q
def tWordL (T : List (Addr × Str)) (c : Cls6) (js : List Nat) (n : Nat) (tb : XK → TE) : TE := fun σ H Q => Tabs T H ∧ ∀ H1, Same (ntH H) H1 → Tabs T H1 → ∃ o, tb (EtO T c H1 o) (js.map (slotAt σ) ++ List.replicate (n - js.length) none) H1 (QtO T H1 o) ∧ ∀ H' p, Same (ntH H1) H' → Tabs T H' → H' p = some (.tup (wordO o)) → Q (.ref p) H'
/-- the word of a lambda written there -/
theorem pe_wordL {cc Pc : Addr} {params : Arguments} {body : Expr} {scope : Scope} {lpos : Pos} {N fr : List Str} {js : List Nat} {tb : XK → TE} (W : WordOk P w K mg base (k + 1) g c) (hr : Room (k + 1 + 1) X.A) (L : LamD X T cc Pc params scope) (S : NScope N [] fr scope) (hjs : js.map (fun j => X.N[j]?) = fr.map some) (hfr : ∀ y ∈ fr, (y, NameKind.free) ∈ scope.names)
    (hbody : ∀ (q : Str) (cl : List (Str × Addr)) (c' f : Addr) (A : Around) (outer : List Env) (s : Shared) (H : Hp) (E : XK), Room k (A.deeper (envF ⟨"<lambda>", q, params, [], scope, cl, c'⟩ f s.heap.objs.size)) → PE (ncx (L2.CX P w) P w K mg base N ⟨"<lambda>", q, params, [], scope, cl, c'⟩ f A outer s H E) body (tb E))
    (hg : Gl X x) (hm : mg x = some (.ref g)) (hk : PySem.W.keepIn K (.ref g) = true)
    (hb : ∀ (q : Str) (cl : List (Str × Addr)) (pm cv ctv : Value), bindArgs (PySem.W.kla_fn "<lambda>" q params body scope cl pm cv ctv) ⟨[], []⟩ = pure [] := by intros; rfl) (h1 : X.prog = P := by rfl) (h2 : X.w = w := by rfl) (h3 : X.K = K := by rfl) (h4 : X.mg = mg := by rfl) (h5 : X.base = base := by rfl) (hdb : (x == ("__debug__" : Str)) = false := by decide)
    (hs0 : starEach [.Lambda params body scope lpos] X.env = (false, eval (.Lambda params body scope lpos) X.env) :: starEach [] X.env := by rfl) (hpl : (backTo pos (starEach [] X.env)).any (·.1) = false := by rfl) :
    PE X (.Call (.Name x p) [.Lambda params body scope lpos] [] pos) (tWordL T c js N.length tb) := by
  subst h1 h2 h3 h4 h5
  refine ⟨fun pins s σ H Q I h => ?_⟩
  obtain ⟨hT, h⟩ := h
  refine wpAny_Call_Name_kw (ld_glob I hg hm ?_ hdb)
  refine PySem.W.callWith_K (h₀ := X.base) I.ok.mod.kin hk (thn ((pa_cons (pe_lamT L) pa_nil hs0).run pos pins s σ H (one1 fun v H1 => ∃ f o, v = .ref f ∧ WorkAt X (k + 1) T c σ H1 f o ∧ ∀ H' p, Same (ntH H1) H' → Tabs T H' → H' p = some (.tup (wordO o)) → Q (.ref p) H') I ⟨hT, fun f c' H1 eN nn T1 f0 f1 c1 => ?_⟩) fun us s1 ⟨vs, H1, I1, r1, q1⟩ => ⟨I1.kIn, ?_⟩) hs0 hpl
  · obtain ⟨o, hq, q⟩ := h H1 (ntH_keep eN) T1
    refine ⟨f, o, rfl, ⟨_, _, _, f1, runsAt_own (k := k) (N := N) (fr := fr) (js := js) f1 c1 (fun ok => Caps.made ok L.free hfr hjs) S (fun pm ctv => hb _ _ _ _ _) fun A outer s' hr' => ⟨_, hbody _ _ _ f A outer s' H1 _ hr', ?_⟩⟩, q⟩
    show tb _ (startF N [] (js.map (slotAt σ))) H1 _
    have e : startF N [] (js.map (slotAt σ)) = js.map (slotAt σ) ++ List.replicate (N.length - js.length) none := by
      unfold startF
      rw [List.length_map]
      rfl
    rw [e]
    exact hq
  · obtain ⟨v, rfl, f, o, rfl, hw, q⟩ := one1_of q1
    obtain ⟨u, rfl, ru⟩ := vals1 r1
    obtain rfl : u = .ref f := ru
    exact word_core W hr I1 hw q
end
end
theorem lamD_by {X : Cx} {T : List (Addr × Str)} {c P : Addr} {params : Arguments} {scope : Scope} (sc : Scope) (hsc : X.env.scope = sc) (tb : TabB X.base X.mg c P) (code : X.env.code = .ref c) (mem : (P, X.env.qual ++ "<lambda>") ∈ T) (one : ∀ p ∈ T, p.1 = P → p.2 = X.env.qual ++ "<lambda>")
    (dfl : defaultsOf params X.env = ([], [])) (h : ndefB sc scope [] = true) : LamD X T c P params scope :=
  ⟨tb, code, mem, one, dfl, fun y hy e => by rw [hsc]; exact ndef_free h y hy e⟩
/-! ### heaps less the cells -/
section
variable {K : PySem.W.Frag} {H H' : Hp} {cl : List (Str × Addr)} {fr : List Str} {ws : List (Option V)} {T : List (Addr × Str)} {c : Cls6}
mutual
theorem dp_cut (h : ThkH H cl fr ws) : ∀ {d : PyData} {v : V}, Dp K H v d → Dp K (cutC cl H) v d
  | .none, _, h => by cases h; exact .non
  | .bool _, _, h => by cases h; exact .bl _
  | .int _, _, h => by cases h; exact .int _
  | .str _, _, h => by cases h; exact .str _
  | .list _, _, hd => by
    cases hd with
    | lst hs ha =>
      refine .lst ?_ (dpa_cut h ha)
      rcases hs with (e | ⟨o, e⟩) | e
      · exact .inl (.inl (by rw [cutC_out (h.out e fun o z => by cases z)]; exact e))
      · exact .inl (.inr ⟨o, by rw [cutC_out (h.out e fun o z => by unfold CelU at z; cases z)]; exact e⟩)
      · exact .inr e
  | .tuple _, _, hd => by
    cases hd with
    | tup hs ha =>
      refine .tup ?_ (dpa_cut h ha)
      rcases hs with (e | ⟨o, e⟩) | e
      · exact .inl (.inl (by rw [cutC_out (h.out e fun o z => by cases z)]; exact e))
      · exact .inl (.inr ⟨o, by rw [cutC_out (h.out e fun o z => by unfold CelU at z; cases z)]; exact e⟩)
      · exact .inr e
  | .dict _, _, h => by cases h
theorem dpa_cut (h : ThkH H cl fr ws) : ∀ {ds : List PyData} {vs : List V}, DpAll K H vs ds → DpAll K (cutC cl H) vs ds
  | [], _, h => by cases h; exact .nil
  | _ :: _, _, hd => by
    cases hd with
    | cons h1 h2 => exact .cons (dp_cut h h1) (dpa_cut h h2)
end
theorem same_put (s : Same (ntH (cutC cl H)) H') : Same (ntH H) (putC cl H H') := fun b o e => by
  obtain ⟨e1, e2⟩ := ntH_some.mp e
  by_cases z : ∃ y, cl.lookup y = some b
  · rw [putC_in z]
    exact e1
  · rw [putC_out z]
    exact s b o (ntH_some.mpr ⟨by rw [cutC_out z]; exact e1, e2⟩)
theorem put_sub (hn : ∀ b, (∃ y, cl.lookup y = some b) → H' b = none) : ∀ b o, H' b = some o → putC cl H H' b = some o := fun b o e => by
  rw [putC_out (fun z => by rw [hn b z] at e; cases e)]
  exact e
theorem tabs_cut (h : ThkH H cl fr ws) (hT : Tabs T H) : Tabs T (cutC cl H) := fun p hp => by
  obtain ⟨ps, h1, h2, h3⟩ := hT p hp
  refine ⟨ps, by rw [cutC_out (h.out h1 fun o z => by cases z)]; exact h1, h2, fun pos cv hc => ?_⟩
  obtain ⟨c0, e1, e2⟩ := h3 pos cv hc
  exact ⟨c0, e1, by rw [cutC_out (h.out e2 fun o z => by unfold CodeO at z; cases z)]; exact e2⟩
theorem errAt_sub {o : WK} {cls : Value} {d : Option Addr} {H1 H2 : Hp} (s : Same H1 H2) (h : ErrAt c o cls d H1) : ErrAt c o cls d H2 := by
  obtain ⟨h1, h2⟩ := h
  refine ⟨h1, ?_⟩
  cases o with
  | ask n => obtain ⟨e, e1, e2⟩ := h2; exact ⟨e, e1, s _ _ e2⟩
  | disk y => obtain ⟨e, e1, e2⟩ := h2; exact ⟨e, e1, s _ _ e2⟩
  | order => exact h2
  | rule => exact h2
  | many => exact h2
theorem put_q {v : V} (s : Same (ntH (cutC cl H)) H') (t : Tabs T H') : (∀ b, (∃ y, cl.lookup y = some b) → H' b = none) → QtO T H none v (putC cl H H') := fun hn => ⟨rfl, same_put s, t.ext (put_sub hn)⟩
theorem put_e {o : WK} {cls : Value} {d : Option Addr} (h : ErrAt c o cls d H') (s : Same (ntH (cutC cl H)) H') (t : Tabs T H') : (∀ b, (∃ y, cl.lookup y = some b) → H' b = none) → EtO T c H (some o) cls d (putC cl H H') :=
  fun hn => ⟨o, rfl, errAt_sub (put_sub hn) h, same_put s, t.ext (put_sub hn)⟩
end
section
variable {P : Program} {w : World} {K : PySem.W.Frag} {mg : Str → Option Value} {base : Heap} {H : Hp} {N fr : List Str} {F : NF} {f : Addr} {params : Arguments} {body : Expr} {ws : List (Option V)} {k : Nat} {Qt : VK} {Et : XK}
theorem thk_runs (hf : H f = some (LamO f F params body)) (hc : H F.c = some (CodeO F.c F.qual)) (T : ThkH H F.cl fr ws) (S : NScope N [] fr F.scope)
    (hb : ∀ pm ctv, bindArgs (PySem.W.kla_fn "<lambda>" F.qual params body F.scope F.cl pm (.ref F.c) ctv) ⟨[], []⟩ = pure [])
    (hbody : ∀ (A : Around) (outer : List Env) (s : Shared), Room k (A.deeper (envF F f s.heap.objs.size)) → ∃ t, PE (ncx (L2.CX P w) P w K mg base N F f A outer s (cutC F.cl H) (fun cls d H' => (∀ b, (∃ y, F.cl.lookup y = some b) → H' b = none) → Et cls d (putC F.cl H H'))) body t ∧
      t (startF N [] ws) (cutC F.cl H) (fun v H' => (∀ b, (∃ y, F.cl.lookup y = some b) → H' b = none) → Qt v (putC F.cl H H')))
    (A : Around) (outer : List Env) (s : Shared) (hr : Room (k + 1) A) (e0 : Env0 P w K mg base A outer s H) : codeAny (model P w) A (.call (.ref f) ⟨[], []⟩) (CR (L2.CX P w) outer P w H s Qt Et) s := by
  obtain ⟨pm, ctv, hfs⟩ := lamO_at e0.hok hf
  have C := T.cells e0.hok
  have e1 := T.cut e0
  have hc1 : cutC F.cl H F.c = some (CodeO F.c F.qual) := by
    rw [cutC_out (T.out hc fun o z => by unfold CodeO at z; cases z)]
    exact hc
  by_cases hr' : Room k (A.deeper (envF F f s.heap.objs.size))
  · obtain ⟨t, ht, hq⟩ := hbody A outer s hr'
    refine codeAny_mono (lam_runX S hr e1 hfs hc1 C (vs := []) (us := []) .nil rfl (hb pm ctv) (fun _ => ht) hq) fun r s2 h => ?_
    cases r with
    | error e => exact T.cx e0 h
    | ok fl =>
      cases fl with
      | ret u => exact T.ce e0 h
      | next => exact False.elim h
      | brk => exact False.elim h
      | cont => exact False.elim h
  · exact absurd (hr.deeper _) hr'
end
end Ag

namespace Ag
open PySem PySem.Spec PyProof.Rows L2
/-! ### the six works -/
open LamX NdefX
theorem whyD_good {d : Disk} (g : GoodDisk d) : whyD d = none := by
  have h1 : 1 ≤ d.tr ∧ d.tr ≤ 64 := ⟨g.t1, g.t2⟩
  have h2 : 1 ≤ d.sc ∧ d.sc ≤ 16 := ⟨g.s1, g.s2⟩
  have h3 : 1 ≤ d.pa ∧ d.pa ≤ 4 := ⟨g.p1, g.p2⟩
  have h4 : 0 ≤ d.he ∧ d.he < d.tr := ⟨g.h1, g.h2⟩
  unfold whyD
  rw [if_neg (not_not_intro h1), if_neg (not_not_intro h2), if_neg (not_not_intro h3), if_neg (not_not_intro h4)]
/-- how a good disk and good asks, more than six of them, are answered -/
def goodO : Nat → Option WK
  | 0 => some .order
  | 1 => some .rule
  | 2 => some .many
  | 3 => some .many
  | _ => none
/-- how the i-th of the six is answered -/
def WOut (d : Disk) (l : List Ask) (i : Nat) (o : Option WK) : Prop := (∃ y, whyD d = some y ∧ o = some (.disk y)) ∨
  (GoodDisk d ∧ ∃ (j : Nat) (k : Ask), l[j]? = some k ∧ (∀ m km, m < j → l[m]? = some km → Fits d m km) ∧ ¬ Fits d j k ∧ o = some (.ask (j : Int))) ∨
  (GoodDisk d ∧ (∀ j k, l[j]? = some k → Fits d j k) ∧ 6 < l.length ∧ o = goodO i)
theorem refu_of {d : Disk} {l : List Ask} {i : Nat} {o : Option WK} {CD CB : Addr} {H : Hp} {E : XK} {rest : Prop} (h : WOut d l i o)
    (e1 : ∀ y, o = some (.disk y) → ∀ e, H e = none → E (.ref CD) (some e) (upd H e (.xd [("word", .str y)]))) (e2 : ∀ n : Int, o = some (.ask n) → ∀ e, H e = none → E (.ref CB) (some e) (upd H e (.xd [("number", .int n)])))
    (e3 : 6 < l.length → o = goodO i → rest) : Refu d l CD CB H E rest := by
  rcases h with ⟨y, hy, rfl⟩ | ⟨g, j, k, hj, hb, hn, rfl⟩ | ⟨g, hf, h6, rfl⟩
  · have ng : ¬ GoodDisk d := fun g => by rw [whyD_good g] at hy; cases hy
    exact ⟨fun y' hy' => by (rw [hy] at hy'; cases hy'; exact e1 y rfl), fun g => absurd g ng, fun g => absurd g ng⟩
  · refine ⟨fun y' hy' => by (rw [whyD_good g] at hy'; cases hy'), fun _ i2 k2 hi2 hb2 hn2 => ?_, fun _ hf => absurd (hf j k hj) hn⟩
    have e : i2 = j := by
      rcases Nat.lt_trichotomy i2 j with h | h | h
      · exact absurd (hb i2 k2 h hi2) hn2
      · exact h
      · exact absurd (hb2 j k h hj) hn
    rw [e]
    exact e2 (j : Int) rfl
  · exact ⟨fun y' hy' => by (rw [whyD_good g] at hy'; cases hy'), fun _ i2 k2 hi2 _ hn2 => absurd (hf i2 k2 hi2) hn2, fun _ _ => e3 h6 rfl⟩
abbrev s_l_works : Stmt := top 50
/-- the lambda that a statement makes -/
def lamIn : Stmt → Expr
  | .Assign _ (.List [e] _) _ => e
  | .Expr (.Call _ [e] _ _) _ => e
  | _ => .Constant .none 0 ⟨0, 0, 0, 0⟩
def lamP : Expr → Arguments
  | .Lambda a _ _ _ => a
  | _ => ⟨[], [], none, [], [], none, []⟩
def lamBd : Expr → Expr
  | .Lambda _ b _ _ => b
  | e => e
def lamS : Expr → Scope
  | .Lambda _ _ s _ => s
  | _ => Scope.mk .function [] false false []
def wkE (i : Nat) : Expr := lamIn ((defBody s_l_works).getD i (.Pass ⟨0, 0, 0, 0⟩))
/-- at f stands the i-th work, over v and u -/
def WkAt (H : Hp) (i : Nat) (f : Addr) (v u : V) : Prop := ∃ (q : Str) (cl : List (Str × Addr)) (c' : Addr), H f = some (LamO f ⟨"<lambda>", q, lamP (wkE i), [], lamS (wkE i), cl, c'⟩ (lamP (wkE i)) (lamBd (wkE i))) ∧ H c' = some (CodeO c' q) ∧ ThkH H cl ["_law_disk_here", "_law_asks_here"] [some v, some u]
theorem WkAt.ext {H H' : Hp} {i : Nat} {f : Addr} {v u : V} (h : WkAt H i f v u) (e : ExtN H H') : WkAt H' i f v u := by
  obtain ⟨q, cl, c', h1, h2, h3⟩ := h
  exact ⟨q, cl, c', e _ _ h1 lamO_ne, e _ _ h2 (fun ps => codeO_ne ps), h3.ext e⟩
theorem ext_of {H H' : Hp} (s : Same (ntH H) H') : ExtN H H' := fun b o h n => s b o (ntH_some.mpr ⟨h, n⟩)
section
variable {P : Program} {w : World} {K : PySem.W.Frag} {mg : Str → Option Value} {base : Heap}
theorem nsc_wk (i : Nat) (hi : i < 6) : NScope ["_law_disk_here", "_law_asks_here"] [] ["_law_disk_here", "_law_asks_here"] (lamS (wkE i)) := by
  rcases (by omega : i = 0 ∨ i = 1 ∨ i = 2 ∨ i = 3 ∨ i = 4 ∨ i = 5) with rfl | rfl | rfl | rfl | rfl | rfl <;> exact nscope_by (by decide +kernel)
theorem bind_wk (i : Nat) (hi : i < 6) (q : Str) (cl : List (Str × Addr)) (pm cv ctv : Value) : bindArgs (PySem.W.kla_fn "<lambda>" q (lamP (wkE i)) (lamBd (wkE i)) (lamS (wkE i)) cl pm cv ctv) ⟨[], []⟩ = pure [] := by
  rcases (by omega : i = 0 ∨ i = 1 ∨ i = 2 ∨ i = 3 ∨ i = 4 ∨ i = 5) with rfl | rfl | rfl | rfl | rfl | rfl <;> rfl
set_option maxHeartbeats 16000000 in
/-- .. and so it ends -/
theorem wk_run {T : List (Addr × Str)} {c : Cls6} {fO fR fL fF fH fW : Addr} {fdO fdR fdL fdF fdH fdW : FuncData}
    (G_by_order : FnOk P w K mg base (L2.CX P w) 5 fO fdO ["disk", "asks", "order"] (sp_by_orderX c.D c.B c.O K)) (C_by_order : Cal K mg "by_order" fO fdO ["disk", "asks", "order"])
    (G_by_rule : FnOk P w K mg base (L2.CX P w) 5 fR fdR ["disk", "asks", "rule"] (sp_by_ruleX c.D c.B c.R K)) (C_by_rule : Cal K mg "by_rule" fR fdR ["disk", "asks", "rule"])
    (G_least_sum : FnOk P w K mg base (L2.CX P w) 5 fL fdL ["disk", "asks"] (sp_least_sumX c.D c.B c.M K)) (C_least_sum : Cal K mg "least_sum" fL fdL ["disk", "asks"])
    (G_front : FnOk P w K mg base (L2.CX P w) 5 fF fdF ["disk", "asks"] (sp_frontX c.D c.B c.M K)) (C_front : Cal K mg "front" fF fdF ["disk", "asks"])
    (G_held : FnOk P w K mg base (L2.CX P w) 10 fH fdH ["disk", "asks"] (sp_heldX c.D c.B K T)) (C_held : Cal K mg "held" fH fdH ["disk", "asks"])
    (G_written : FnOk P w K mg base (L2.CX P w) 5 fW fdW ["disk", "asks"] (sp_writtenX c.D c.B K)) (C_written : Cal K mg "written" fW fdW ["disk", "asks"])
    {H : Hp} {i : Nat} {f : Addr} {v u : V} {d : Disk} {l : List Ask} {o : Option WK} (hw : WkAt H i f v u) (hi : i < 6) (hT : Tabs T H) (hd : Dp K H v (dDisk d)) (ha : Dp K H u (dAsks l)) (hl : l.length ≤ 1000) (ho : WOut d l i o) : ThkAt P w K mg base 11 T c H f o := by
  obtain ⟨q, cl, c', hf, hc, hth⟩ := hw
  refine ⟨_, _, _, hf, fun A outer s hr e0 => thk_runs (k := 10) (N := ["_law_disk_here", "_law_asks_here"]) hf hc hth (nsc_wk i hi) (fun pm ctv => bind_wk i hi _ _ _ _ _) (fun A outer s hr => ?_) A outer s hr e0⟩
  have hd1 := dp_cut hth hd
  have ha1 := dp_cut hth ha
  have hT1 := tabs_cut hth hT
  have s0 := ntH_sub (cutC cl H)
  -- what is raised
  have eD : ∀ {H2 : Hp}, Same (ntH (cutC cl H)) H2 → Tabs T H2 → ∀ y, o = some (.disk y) → ∀ e, H2 e = none → (∀ b, (∃ y, cl.lookup y = some b) → upd H2 e (.xd [("word", .str y)]) b = none) → EtO T c H o (.ref c.D) (some e) (putC cl H (upd H2 e (.xd [("word", .str y)]))) := fun {H2} s2 t2 y hy e he hn => by
    subst hy
    exact put_e (o := .disk y) ⟨rfl, e, rfl, upd_same⟩ (s2.trans (same_new he)) (t2.ext (same_new he)) hn
  have eB : ∀ {H2 : Hp}, Same (ntH (cutC cl H)) H2 → Tabs T H2 → ∀ n : Int, o = some (.ask n) → ∀ e, H2 e = none → (∀ b, (∃ y, cl.lookup y = some b) → upd H2 e (.xd [("number", .int n)]) b = none) → EtO T c H o (.ref c.B) (some e) (putC cl H (upd H2 e (.xd [("number", .int n)]))) := fun {H2} s2 t2 n hy e he hn => by
    subst hy
    exact put_e (o := .ask n) ⟨rfl, e, rfl, upd_same⟩ (s2.trans (same_new he)) (t2.ext (same_new he)) hn
  have hr5 : Room 5 (A.deeper (envF ⟨"<lambda>", q, lamP (wkE i), [], lamS (wkE i), cl, c'⟩ f s.heap.objs.size)) := hr.mono (by decide)
  rcases (by omega : i = 0 ∨ i = 1 ∨ i = 2 ∨ i = 3 ∨ i = 4 ∨ i = 5) with rfl | rfl | rfl | rfl | rfl | rfl
  · refine ⟨_, pe_callS G_by_order hr5 (by rfl) C_by_order.m C_by_order.k C_by_order.b (fun σ => passAt (takes_of rfl rfl rfl rfl) σ) (pa_cons (pv 0) (pa_cons (pv 1) (pa_cons (pe_lst (pa_cons pe_int pa_nil)) pa_nil))), ?_⟩
    refine ⟨_, rfl, _, rfl, (by show 1 ≤ sizeLine; decide), fun p hp => ?_⟩
    have s1 := same_new (o := HO.lst [.int 9]) hp
    refine ⟨v, u, .ref p, d, l, [9], rfl, dp_same s1 hd1, dp_same s1 ha1, dp_ints_of (ns := [9]) (SqL.of upd_same), hl, refu_of ho (eD (s0.trans s1) (hT1.ext s1)) (eB (s0.trans s1) (hT1.ext s1)) fun h6 he => ⟨fun hp => ?_, fun H2 s2 => ?_⟩⟩
    · have := hp.length_eq
      rw [nints_len, List.length_range] at this
      simp at this
      omega
    · subst he
      exact put_e (o := .order) ⟨rfl, rfl⟩ (s0.trans (s1.trans s2)) (hT1.ext (s1.trans s2))
  · refine ⟨_, pe_callS G_by_rule hr5 (by rfl) C_by_rule.m C_by_rule.k C_by_rule.b (fun σ => passAt (takes_of rfl rfl rfl rfl) σ) (pa_cons (pv 0) (pa_cons (pv 1) (pa_cons pe_str pa_nil))), ?_⟩
    refine ⟨_, rfl, _, rfl, v, u, _, d, l, rfl, hd1, ha1, by omega, refu_of ho (eD s0 hT1) (eB s0 hT1) fun h6 he => ⟨by decide +kernel, ?_⟩⟩
    subst he
    exact put_e (o := .rule) ⟨rfl, rfl⟩ s0 hT1
  · refine ⟨_, pe_callS G_least_sum hr5 (by rfl) C_least_sum.m C_least_sum.k C_least_sum.b (fun σ => passAt (takes_of rfl rfl rfl rfl) σ) (pa_cons (pv 0) (pa_cons (pv 1) pa_nil)), ?_⟩
    refine ⟨_, rfl, _, rfl, v, u, d, l, rfl, hd1, ha1, by omega, refu_of ho (eD s0 hT1) (eB s0 hT1) fun h6 he => ⟨h6, ?_⟩⟩
    subst he
    exact put_e (o := .many) ⟨rfl, rfl⟩ s0 hT1
  · refine ⟨_, pe_callS G_front hr5 (by rfl) C_front.m C_front.k C_front.b (fun σ => passAt (takes_of rfl rfl rfl rfl) σ) (pa_cons (pv 0) (pa_cons (pv 1) pa_nil)), ?_⟩
    refine ⟨_, rfl, _, rfl, v, u, d, l, rfl, hd1, ha1, by omega, refu_of ho (eD s0 hT1) (eB s0 hT1) fun h6 he => ⟨h6, ?_⟩⟩
    subst he
    exact put_e (o := .many) ⟨rfl, rfl⟩ s0 hT1
  · refine ⟨_, pe_callS G_held hr (by rfl) C_held.m C_held.k C_held.b (fun σ => passAt (takes_of rfl rfl rfl rfl) σ) (pa_cons (pv 0) (pa_cons (pv 1) pa_nil)), ?_⟩
    refine ⟨_, rfl, _, rfl, v, u, d, l, rfl, hd1, ha1, by omega, hT1, refu_of ho (eD s0 hT1) (eB s0 hT1) fun h6 he H2 D s2 t2 => ?_⟩
    subst he
    exact put_q s2 t2
  · refine ⟨_, pe_callS G_written hr5 (by rfl) C_written.m C_written.k C_written.b (fun σ => passAt (takes_of rfl rfl rfl rfl) σ) (pa_cons (pv 0) (pa_cons (pv 1) pa_nil)), ?_⟩
    refine ⟨_, rfl, _, rfl, v, u, d, l, rfl, hd1, ha1, by omega, refu_of ho (eD s0 hT1) (eB s0 hT1) fun h6 he H2 s2 => ?_⟩
    subst he
    exact put_q (s0.trans s2) (hT1.ext s2)
end
end Ag

namespace Ag
open PySem PySem.Spec PyProof.Rows L2
/-! ### the six works, made -/
open LamX NdefX
theorem clo_lam {H' H3 : Hp} {cells : List (Str × Addr)} {N : List Str} {sc : Scope} {σ : L2.St} {i : Nat} (hi : i < 6) {v u : V} (cp : CelPut cells N sc σ H' H3) (h0 : N[0]? = some ("_law_disk_here" : Str)) (h1 : N[1]? = some ("_law_asks_here" : Str)) (k0 : sc.names.lookup ("_law_disk_here" : Str) = some .cell) (k1 : sc.names.lookup ("_law_asks_here" : Str) = some .cell)
    (s0 : σ[0]? = some (some v)) (s1 : σ[1]? = some (some u)) : ThkH H3 (cloFrom cells (lamS (wkE i)).names []) ["_law_disk_here", "_law_asks_here"] [some v, some u] := by
  have S := nsc_wk i hi
  obtain ⟨c0, e0, w0⟩ := cp.val 0 _ h0 k0
  obtain ⟨c1, e1, w1⟩ := cp.val 1 _ h1 k1
  have hfree : ∀ y ∈ (lamS (wkE i)).names, y.2 = .free → ∃ c, cells.lookup y.1 = some c := fun y hy e => by
    have hm := S.free y hy e
    simp only [List.mem_cons, List.not_mem_nil, or_false] at hm
    rcases hm with h | h
    · exact ⟨c0, by rw [h]; exact e0⟩
    · exact ⟨c1, by rw [h]; exact e1⟩
  refine ⟨rfl, fun y c e => cp.all y c (clo_cm hfree e), fun x y c e1 e2 => cp.inj x y c (clo_cm hfree e1) (clo_cm hfree e2), fun j y hj => ?_⟩
  match j, hj with
  | 0, hj =>
    cases hj
    exact ⟨c0, clo_has hfree (PySem.mem_of_lookup (S.frk _ (List.mem_cons_self))) e0, fun v' hv => by cases hv; exact w0 v s0⟩
  | 1, hj =>
    cases hj
    exact ⟨c1, clo_has hfree (PySem.mem_of_lookup (S.frk _ (List.mem_cons_of_mem _ List.mem_cons_self))) e1, fun v' hv => by cases hv; exact w1 u s1⟩
  | j + 2, hj => cases hj
/-- while they are made -/
structure WI (T : List (Addr × Str)) (cells : List (Str × Addr)) (q : Str) (p : Addr) (fs : List Addr) (H0 H : Hp) : Prop where
  ext : ExtN H0 H
  tabs : Tabs T H
  at_ : H p = some (.lst (fs.map V.ref))
  new : H0 p = none
  made : ∀ i f, fs[i]? = some f → ∃ c', H f = some (LamO f ⟨"<lambda>", q, lamP (wkE i), [], lamS (wkE i), cloFrom cells (lamS (wkE i)).names [], c'⟩ (lamP (wkE i)) (lamBd (wkE i))) ∧ H c' = some (CodeO c' q)
section
variable {T : List (Addr × Str)} {cells : List (Str × Addr)} {q : Str} {p : Addr} {fs : List Addr} {H0 H1 H2 : Hp} {f c' : Addr}
theorem WI.first (n : H0 p = none) (e : ExtN H0 H1) (t : Tabs T H1) (hp : H1 p = none) (hf : H1 f = some (LamO f ⟨"<lambda>", q, lamP (wkE 0), [], lamS (wkE 0), cloFrom cells (lamS (wkE 0)).names [], c'⟩ (lamP (wkE 0)) (lamBd (wkE 0)))) (hc : H1 c' = some (CodeO c' q)) :
    WI T cells q p [f] H0 (upd H1 p (.lst [V.ref f])) := by
  have s := same_new (o := .lst [V.ref f]) hp
  refine ⟨e.trans (.of s), t.ext s, upd_same, n, fun i g hg => ?_⟩
  match i, hg with
  | 0, hg =>
    cases hg
    exact ⟨c', s _ _ hf, s _ _ hc⟩
  | i + 1, hg => cases hg
theorem WI.step (w : WI T cells q p fs H0 H1) (e : ExtN H1 H2) (t : Tabs T H2) (hf : H2 f = some (LamO f ⟨"<lambda>", q, lamP (wkE fs.length), [], lamS (wkE fs.length), cloFrom cells (lamS (wkE fs.length)).names [], c'⟩ (lamP (wkE fs.length)) (lamBd (wkE fs.length)))) (hc : H2 c' = some (CodeO c' q)) :
    WI T cells q p (fs ++ [f]) H0 (upd H2 p (.lst (fs.map V.ref ++ [V.ref f]))) := by
  have hp : H2 p = some (.lst (fs.map V.ref)) := e _ _ w.at_ fun ps z => by cases z
  have keep : ∀ {b : Addr} {o : HO}, H2 b = some o → (∀ xs, o ≠ .lst xs) → upd H2 p (.lst (fs.map V.ref ++ [V.ref f])) b = some o := fun {b o} h n => by
    rw [upd_ne (fun z => n _ (Option.some.inj (h.symm.trans (by rw [z]; exact hp))))]
    exact h
  refine ⟨fun b o h n => ?_, tabs_upd t hp (by intro _ z; cases z) (by intro _ z; cases z), ?_, w.new, fun i g hg => ?_⟩
  · have h1 := e _ _ (w.ext b o h n) n
    rw [upd_ne (fun z => by rw [z, w.new] at h; cases h)]
    exact h1
  · rw [upd_same, List.map_append]
    rfl
  · rcases Nat.lt_or_ge i fs.length with hlt | hge
    · rw [List.getElem?_append_left hlt] at hg
      obtain ⟨c0, h1, h2⟩ := w.made i g hg
      exact ⟨c0, keep (e _ _ h1 lamO_ne) (fun xs z => by unfold LamO at z; cases z), keep (e _ _ h2 (fun ps => codeO_ne ps)) (fun xs z => by unfold CodeO at z; cases z)⟩
    · rw [List.getElem?_append_right hge] at hg
      have hi : i = fs.length := by
        rcases Nat.lt_or_ge (i - fs.length) 1 with h | h
        · omega
        · rw [List.getElem?_eq_none (by simpa using h)] at hg
          cases hg
      subst hi
      rw [Nat.sub_self] at hg
      cases hg
      exact ⟨c', keep hf (fun xs z => by unfold LamO at z; cases z), keep hc (fun xs z => by unfold CodeO at z; cases z)⟩
end
def sp_l_works (K : PySem.W.Frag) (T : List (Addr × Str)) : Sp := fun vs H Q _ => ∃ (v u : V), vs = [v, u] ∧ Tabs T H ∧
  ∀ (H' : Hp) (p : Addr) (fs : List Addr), Same (ntH H) H' → Tabs T H' → fs.length = 6 → H' p = some (.lst (fs.map V.ref)) → (∀ i f, fs[i]? = some f → WkAt H' i f v u) → Q (.ref p) H'
theorem sc_l_works : FnScope ["_law_disk_here", "_law_asks_here", "_law_works_here"] ["_law_disk_here", "_law_asks_here"] (defScope s_l_works) := ⟨rfl, rfl, rfl, by decide +kernel, rfl, by decide +kernel, by decide +kernel⟩
section
variable {P : Program} {w : World} {K : PySem.W.Frag} {mg : Str → Option Value} {base : Heap}
set_option maxHeartbeats 16000000 in
theorem ok_l_works {f cc Pc : Addr} {fd : FuncData} {T : List (Addr × Str)} (F : FunC K "_law_works" "_law_works" s_l_works f fd cc) (AT : ArmT base mg T cc Pc "_law_works") : FnOk P w K mg base CX0 4 f fd ["_law_disk_here", "_law_asks_here"] (sp_l_works K T) := by
  obtain ⟨oc, od, kV, doc, pm, an, ct, osl, rfl, lk, hcd⟩ := F.ex
  refine fn_ofC lk hcd sc_l_works (fun vs H Q E h => ?_) fun A outer s H vs Q E hr h => ?_
  · obtain ⟨v, u, rfl, _⟩ := h
    rfl
  · obtain ⟨v, u, rfl, hT, q⟩ := h
    have nd := sc_l_works.nd
    refine ⟨_, pkr_cons (ps_set (i := 2) nd rfl (.inl rfl) (pe_lst (pa_cons (pe_lamT (T := T) (lamD_by (defScope s_l_works) rfl AT.tb rfl AT.mem AT.one rfl (by decide +kernel))) pa_nil)))
      (pkr_cons (ps_expr (pe_bm PySem.F.plainAttrs_list PySem.F.slot_list_append PySem.F.type_list_append mt_append (pv 2) (pa_cons (pe_lamT (T := T) (lamD_by (defScope s_l_works) rfl AT.tb rfl AT.mem AT.one rfl (by decide +kernel))) pa_nil)))
      (pkr_cons (ps_expr (pe_bm PySem.F.plainAttrs_list PySem.F.slot_list_append PySem.F.type_list_append mt_append (pv 2) (pa_cons (pe_lamT (T := T) (lamD_by (defScope s_l_works) rfl AT.tb rfl AT.mem AT.one rfl (by decide +kernel))) pa_nil)))
      (pkr_cons (ps_expr (pe_bm PySem.F.plainAttrs_list PySem.F.slot_list_append PySem.F.type_list_append mt_append (pv 2) (pa_cons (pe_lamT (T := T) (lamD_by (defScope s_l_works) rfl AT.tb rfl AT.mem AT.one rfl (by decide +kernel))) pa_nil)))
      (pkr_cons (ps_expr (pe_bm PySem.F.plainAttrs_list PySem.F.slot_list_append PySem.F.type_list_append mt_append (pv 2) (pa_cons (pe_lamT (T := T) (lamD_by (defScope s_l_works) rfl AT.tb rfl AT.mem AT.one rfl (by decide +kernel))) pa_nil)))
      (pkr_cons (ps_expr (pe_bm PySem.F.plainAttrs_list PySem.F.slot_list_append PySem.F.type_list_append mt_append (pv 2) (pa_cons (pe_lamT (T := T) (lamD_by (defScope s_l_works) rfl AT.tb rfl AT.mem AT.one rfl (by decide +kernel))) pa_nil)))
      (pkr_ret (pv 2))))))), ?_⟩
    refine ⟨hT, fun f0 c0 H1 e1 n1 T1 _ h0 k0 => ⟨(by show 1 ≤ sizeLine; decide), fun p hp => ?_⟩⟩
    have w1 := WI.first (cells := (envOfC "_law_works" (defScope s_l_works) s.heap.objs.size f (.ref cc)).cells) (q := lq "_law_works") (f := f0) (c' := c0) (n1 _ hp) e1 T1 hp h0 k0
    revert w1
    generalize upd H1 p (.lst [V.ref f0]) = G1
    intro w1
    refine ⟨_, rfl, .inl ⟨rfl, _, SqL.of w1.at_⟩, ⟨w1.tabs, fun f1 c1 H2 e2 n2 T2 _ h1 k1 => ?_⟩⟩
    refine ⟨p, _, .ref f1, rfl, rfl, e2 _ _ w1.at_ (fun ps z => by cases z), (by show 1 < sizeLine; decide), ?_⟩
    have w2 := w1.step e2 T2 h1 k1
    revert w2
    generalize upd H2 p (.lst (List.map V.ref ([f0]) ++ [V.ref f1])) = G2
    intro w2
    refine ⟨_, rfl, .inl ⟨rfl, _, SqL.of w2.at_⟩, ⟨w2.tabs, fun f2 c2 H3 e3 n3 T3 _ h2 k2 => ?_⟩⟩
    refine ⟨p, _, .ref f2, rfl, rfl, e3 _ _ w2.at_ (fun ps z => by cases z), (by show 2 < sizeLine; decide), ?_⟩
    have w3 := w2.step e3 T3 h2 k2
    revert w3
    generalize upd H3 p (.lst (List.map V.ref ([f0] ++ [f1]) ++ [V.ref f2])) = G3
    intro w3
    refine ⟨_, rfl, .inl ⟨rfl, _, SqL.of w3.at_⟩, ⟨w3.tabs, fun f3 c3 H4 e4 n4 T4 _ h3 k3 => ?_⟩⟩
    refine ⟨p, _, .ref f3, rfl, rfl, e4 _ _ w3.at_ (fun ps z => by cases z), (by show 3 < sizeLine; decide), ?_⟩
    have w4 := w3.step e4 T4 h3 k3
    revert w4
    generalize upd H4 p (.lst (List.map V.ref ([f0] ++ [f1] ++ [f2]) ++ [V.ref f3])) = G4
    intro w4
    refine ⟨_, rfl, .inl ⟨rfl, _, SqL.of w4.at_⟩, ⟨w4.tabs, fun f4 c4 H5 e5 n5 T5 _ h4 k4 => ?_⟩⟩
    refine ⟨p, _, .ref f4, rfl, rfl, e5 _ _ w4.at_ (fun ps z => by cases z), (by show 4 < sizeLine; decide), ?_⟩
    have w5 := w4.step e5 T5 h4 k4
    revert w5
    generalize upd H5 p (.lst (List.map V.ref ([f0] ++ [f1] ++ [f2] ++ [f3]) ++ [V.ref f4])) = G5
    intro w5
    refine ⟨_, rfl, .inl ⟨rfl, _, SqL.of w5.at_⟩, ⟨w5.tabs, fun f5 c5 H6 e6 n6 T6 _ h5 k5 => ?_⟩⟩
    refine ⟨p, _, .ref f5, rfl, rfl, e6 _ _ w5.at_ (fun ps z => by cases z), (by show 5 < sizeLine; decide), ?_⟩
    have w6 := w5.step e6 T6 h5 k5
    revert w6
    generalize upd H6 p (.lst (List.map V.ref ([f0] ++ [f1] ++ [f2] ++ [f3] ++ [f4]) ++ [V.ref f5])) = G6
    intro w6
    refine ⟨_, rfl, fun H3 cp => ?_⟩
    have no : ∀ {b : Addr} {o : HO}, G6 b = some o → H3 b = some o := fun {b o} h => by
      rw [cp.out b fun ⟨y, z⟩ => by rw [cp.free y b z] at h; cases h]
      exact h
    refine q H3 p ([f0] ++ [f1] ++ [f2] ++ [f3] ++ [f4] ++ [f5]) (fun b o h => ?_) (w6.tabs.ext fun b o h => no h) rfl (no w6.at_) fun i g hg => ?_
    · obtain ⟨h1, h2⟩ := ntH_some.mp h
      exact no (w6.ext b o h1 h2)
    · obtain ⟨c', h1, h2⟩ := w6.made i g hg
      have hi : i < 6 := (List.getElem?_eq_some_iff.mp hg).1
      exact ⟨_, _, c', no h1, no h2, clo_lam hi cp rfl rfl rfl rfl rfl rfl⟩
end
end Ag

namespace Ag
open PySem PySem.Spec PyProof.Rows L2
/-! ### the law's own look at a disk -/
theorem inV_rg (t a b : Int) : inV (.int t) (rgV a b) = decide (a ≤ t ∧ t < b) := by
  by_cases h : a ≤ t ∧ t < b
  · rw [decide_eq_true h]
    unfold inV rgV
    rw [List.any_eq_true]
    refine ⟨.int t, List.mem_map.mpr ⟨(t - a).toNat, List.mem_range.mpr (by omega), by congr 1; omega⟩, ?_⟩
    simp [eqV]
  · rw [decide_eq_false h]
    unfold inV rgV
    rw [List.any_eq_false]
    intro x hx
    obtain ⟨i, hi, rfl⟩ := List.mem_map.mp hx
    have := List.mem_range.mp hi
    simp [eqV]
    omega
theorem flat_rg (a b : Int) : (rgV a b).all flatV = true := by
  unfold rgV
  rw [List.all_eq_true]
  intro x hx
  obtain ⟨i, _, rfl⟩ := List.mem_map.mp hx
  rfl
/-- why it is none -/
noncomputable def whyS (d : Disk) : Str := (whyD d).getD ""
abbrev s_l_why : Stmt := top 47
def sp_l_why (K : PySem.W.Frag) : Sp := fun vs H Q _ => ∃ (v : V) (d : Disk), vs = [v] ∧ Dp K H v (dDisk d) ∧ ∀ H', Same H H' → Q (.str (whyS d)) H'
theorem sc_l_why : FnScope ["_law_disk_here", "_law_tracks", "_law_sectors", "_law_pace", "_law_here"] ["_law_disk_here"] (defScope s_l_why) := ⟨rfl, rfl, rfl, by decide +kernel, rfl, by decide +kernel, by decide +kernel⟩
section
variable {P : Program} {w : World} {K : PySem.W.Frag} {mg : Str → Option Value} {base : Heap}
theorem ok_l_why {f : Addr} {fd : FuncData} (F : Fun K "_law_why" "_law_why" s_l_why f fd) (mb_list : mg "list" = none) (mb_range : mg "range" = none) : FnOk P w K mg base CX0 1 f fd ["_law_disk_here"] (sp_l_why K) := by
  refine F.ok sc_l_why (fun vs H Q E h => ?_) (fun cdv A outer s H vs Q E hr h => ?_)
  · obtain ⟨v, d, rfl, _⟩ := h
    rfl
  · obtain ⟨v, d, rfl, hd, q⟩ := h
    obtain ⟨a, rfl, hT⟩ := dp_disk hd
    have nd := sc_l_why.nd
    refine ⟨_, (pss_cons (ps_asg (pv 0) (pg_tup rfl (pgs_cons (pg_name (i := 1) nd rfl (.inl rfl)) (pgs_cons (pg_name (i := 2) nd rfl (.inl rfl)) (pgs_cons (pg_name (i := 3) nd rfl (.inl rfl)) (pgs_cons (pg_name (i := 4) nd rfl (.inl rfl)) pgs_nil))))))
      (pss_cons (ps_if (pt_cmpR (r := rIn K true) op_notIn_seq (pv 1) (pe_listRg rfl rfl mb_list (prg_2 rfl mb_range pe_int pe_int)) (by rfl)) (pss_one (ps_ret pe_str)) pss_nil)
      (pss_cons (ps_if (pt_cmpR (r := rIn K true) op_notIn_seq (pv 2) (pe_listRg rfl rfl mb_list (prg_2 rfl mb_range pe_int pe_int)) (by rfl)) (pss_one (ps_ret pe_str)) pss_nil)
      (pss_cons (ps_if (pt_cmpR (r := rIn K true) op_notIn_seq (pv 3) (pe_tup (pa_cons pe_int (pa_cons pe_int (pa_cons pe_int (pa_cons pe_int pa_nil))))) (by rfl)) (pss_one (ps_ret pe_str)) pss_nil)
      (pss_one (ps_ret (pe_ifExp (pt_cmpR (r := rIn K false) op_in_seq (pv 4) (pe_listRg rfl rfl mb_list (prg_1 rfl mb_range (pv 1))) (by rfl)) pe_str pe_str))))))), ?_⟩
    refine ⟨_, rfl, a, _, rfl, hT, rfl, _, _, rfl, _, _, rfl, _, _, rfl, _, _, rfl, rfl, ?_⟩
    refine ⟨_, rfl, _, _, rfl, rfl, RgOk.of_le (by decide) (by decide) (by decide) (by decide), fun r1 h1 => ?_⟩
    have s1 := same_new (o := .lst (rgV 1 65)) h1
    refine ⟨r1, _, rfl, .inl (SqL.of upd_same), rfl, flat_rg _ _, _, rfl, ?_⟩
    rw [inV_rg]
    refine if2nd (fun k1 => ?_) (fun k1 => ?_)
    · have k1' : 1 ≤ d.tr ∧ d.tr ≤ 64 := ⟨k1.1, by omega⟩
      refine ⟨_, rfl, _, _, rfl, rfl, RgOk.of_le (by decide) (by decide) (by decide) (by decide), fun r2 h2 => ?_⟩
      have s2 := s1.trans (same_new (o := .lst (rgV 1 17)) h2)
      refine ⟨r2, _, rfl, .inl (SqL.of upd_same), rfl, flat_rg _ _, _, rfl, ?_⟩
      rw [inV_rg]
      refine if2nd (fun k2 => ?_) (fun k2 => ?_)
      · have k2' : 1 ≤ d.sc ∧ d.sc ≤ 16 := ⟨k2.1, by omega⟩
        refine ⟨_, rfl, (by show 4 ≤ sizeLine; decide), fun r3 h3 => ?_⟩
        have s3 := s2.trans (same_new (o := .tup [.int 1, .int 2, .int 3, .int 4]) h3)
        refine ⟨r3, _, rfl, .inr (SqT.of upd_same), rfl, rfl, _, rfl, ?_⟩
        have e3 : inV (.int d.pa) [.int 1, .int 2, .int 3, .int 4] = decide (1 ≤ d.pa ∧ d.pa ≤ 4) := by
          have e : ([.int 1, .int 2, .int 3, .int 4] : List V) = rgV 1 5 := by decide +kernel
          rw [e, inV_rg]
          exact decide_eq_decide.mpr ⟨fun h => ⟨h.1, by omega⟩, fun h => ⟨h.1, by omega⟩⟩
        rw [e3]
        refine if2nd (fun k3 => ?_) (fun k3 => ?_)
        · refine ⟨_, rfl, _, rfl, _, rfl, RgOk.of_le (by decide) (by omega) (by decide) (by omega), fun r4 h4 => ?_⟩
          have s4 := s3.trans (same_new (o := .lst (rgV 0 d.tr)) h4)
          refine ⟨r4, _, rfl, .inl (SqL.of upd_same), rfl, flat_rg _ _, _, rfl, ?_⟩
          rw [inV_rg]
          have ew : whyS d = if 0 ≤ d.he ∧ d.he < d.tr then "" else "here" := by
            unfold whyS whyD
            rw [if_neg (not_not_intro k1'), if_neg (not_not_intro k2'), if_neg (not_not_intro k3)]
            by_cases k4 : 0 ≤ d.he ∧ d.he < d.tr
            · rw [if_neg (not_not_intro k4), if_pos k4]
              rfl
            · rw [if_pos k4, if_neg k4]
              rfl
          refine if2d (fun k4 => ?_) (fun k4 => ?_)
          · rw [if_pos k4] at ew
            have := q _ s4
            rw [ew] at this
            exact this
          · rw [if_neg k4] at ew
            have := q _ s4
            rw [ew] at this
            exact this
        · have ew : whyS d = "pace" := by
            unfold whyS whyD
            rw [if_neg (not_not_intro k1'), if_neg (not_not_intro k2'), if_pos k3]
            rfl
          have := q _ s3
          rw [ew] at this
          exact this
      · have ew : whyS d = "sectors" := by
          unfold whyS whyD
          rw [if_neg (not_not_intro k1'), if_pos (fun z => k2 ⟨z.1, by omega⟩)]
          rfl
        have := q _ s2
        rw [ew] at this
        exact this
    · have ew : whyS d = "tracks" := by
        unfold whyS whyD
        rw [if_pos (fun z => k1 ⟨z.1, by omega⟩)]
        rfl
      have := q _ s1
      rw [ew] at this
      exact this
end
end Ag

namespace Ag
open PySem PySem.Spec PyProof.Rows L2
/-! ### the law's draws: any number in range -/
abbrev s_l_taken : Stmt := top 43
def sp_l_taken (K : PySem.W.Frag) : Sp := fun vs H Q _ => ∃ (r : Addr) (many : Int), vs = [.ref r, .int many] ∧ RowAt K H r ∧ 0 < many ∧ ∀ (H' : Hp) (v : Int), 0 ≤ v → v < many → RowAt K H' r → SameBut r H H' → Q (.int v) H'
theorem sc_l_taken : FnScope ["_law_row", "_law_many", "_law_cell"] ["_law_row", "_law_many"] (defScope s_l_taken) := ⟨rfl, rfl, rfl, by decide +kernel, rfl, by decide +kernel, by decide +kernel⟩
section
variable {P : Program} {w : World} {K : PySem.W.Frag} {mg : Str → Option Value} {base : Heap}
theorem ok_l_taken {f : Addr} {fd : FuncData} (F : Fun K "_law_taken" "_law_taken" s_l_taken f fd) (ml : mg "len" = none) : FnOk P w K mg base CX0 1 f fd ["_law_row", "_law_many"] (sp_l_taken K) := by
  refine F.ok sc_l_taken (fun vs H Q E h => ?_) (fun cdv A outer s H vs Q E hr h => ?_)
  · obtain ⟨r, many, rfl, _⟩ := h
    rfl
  · obtain ⟨r, many, rfl, ⟨a, ns, pos, mix, p0, hR, hS⟩, hm, q⟩ := h
    have nd := sc_l_taken.nd
    refine ⟨_, pss_cons (ps_asg (pe_op op_add (pe_ix ix_list (pv 0) pe_int (fun _ _ => rfl)) pe_int) (pg_sub (pv 0) pe_int set_list))
      (pss_cons (ps_if (pt_cmpR op_gt (pe_ix ix_list (pv 0) pe_int (fun _ _ => rfl)) (pe_callB call_len_seq (by rfl) ml PySem.boot_len (pa_cons (pe_ix ix_list (pv 0) pe_int (fun _ _ => rfl)) pa_nil)) (nomark _))
        (pss_cons (ps_asg (pe_op op_mod (pe_op op_add (pe_op op_mul (pe_ix ix_list (pv 0) pe_int (fun _ _ => rfl)) pe_int) pe_int) pe_int) (pg_sub (pv 0) pe_int set_list))
          (pss_one (ps_ret (pe_op op_mod (pe_op op_fdiv (pe_ix ix_list (pv 0) pe_int (fun _ _ => rfl)) pe_int) (pv 1))))) pss_nil)
      (pss_cons (ps_set (i := 2) nd rfl (.inl rfl) (pe_ix ix_list (pe_ix ix_list (pv 0) pe_int (fun _ _ => rfl)) (pe_op op_sub (pe_ix ix_list (pv 0) pe_int (fun _ _ => rfl)) pe_int) (fun _ _ => rfl)))
      (pss_cons (ps_asg (pe_op op_mod (pe_op op_add (pe_op op_add (pe_op op_mul (pe_ix ix_list (pv 0) pe_int (fun _ _ => rfl)) pe_int) (pv 2)) pe_int) pe_int) (pg_sub (pv 0) pe_int set_list))
      (pss_one (ps_ret (pe_op op_mod (pv 2) (pv 1))))))), ?_⟩
    refine ⟨_, rfl, r, _, 1, _, rfl, rfl, SqL.of hR, atI_nat (j := 1) rfl, _, _, rfl, rfl, _, rfl, r, _, _, 1, rfl, rfl, hR, rfl, ?_⟩
    have h1 : upd H r (.lst ([V.ref a, .int pos, .int mix].set 1 (.int (pos + 1)))) r = some (.lst [V.ref a, .int (pos + 1), .int mix]) := upd_same
    have hS1 : ScrAt K (upd H r (.lst ([V.ref a, .int pos, .int mix].set 1 (.int (pos + 1))))) a ns := hS.put hR
    have b1 : SameBut r H (upd H r (.lst ([V.ref a, .int pos, .int mix].set 1 (.int (pos + 1))))) := sb_upd sb_refl
    revert h1 hS1 b1
    generalize upd H r (.lst ([V.ref a, .int pos, .int mix].set 1 (.int (pos + 1)))) = H1
    intro h1 hS1 b1
    refine ⟨_, rfl, r, _, 1, _, rfl, rfl, SqL.of h1, atI_nat (j := 1) rfl, _, rfl, r, _, 0, _, rfl, rfl, SqL.of h1, atI_nat (j := 0) rfl, a, _, rfl, .inl hS1.sql, _, _, rfl, rfl, _, rfl, if2d (fun _ => ?_) (fun hle => ?_)⟩
    · refine ⟨_, rfl, r, _, 2, _, rfl, rfl, SqL.of h1, atI_nat (j := 2) rfl, _, _, rfl, rfl, .inr ⟨by decide, by decide⟩, _, _, rfl, rfl, _, _, rfl, rfl, (by show (0 : Int) < 2147483647; decide), _, rfl, r, _, _, 2, rfl, rfl, h1, rfl, ?_⟩
      refine ⟨_, rfl, r, [V.ref a, .int (pos + 1), .int ((mix * 48271 + 11) % 2147483647)], 2, _, rfl, rfl, .inl (.inl upd_same), atI_nat (j := 2) rfl, _, _, rfl, rfl, ⟨by decide, by decide⟩, _, rfl, _, _, rfl, rfl, hm, ?_⟩
      refine q _ _ (Int.emod_nonneg _ (by omega)) (Int.emod_lt_of_pos _ hm) ⟨a, ns, pos + 1, _, by omega, upd_same, hS1.put h1⟩ (sb_upd b1)
    · rw [List.length_map] at hle
      have hlt : pos.toNat < ns.length := by omega
      obtain ⟨z, hz⟩ : ∃ z, ns[pos.toNat]? = some z := ⟨_, List.getElem?_eq_getElem hlt⟩
      refine ⟨_, rfl, r, _, 0, _, rfl, rfl, SqL.of h1, atI_nat (j := 0) rfl, _, rfl, r, _, 1, _, rfl, rfl, SqL.of h1, atI_nat (j := 1) rfl, _, _, rfl, rfl, a, _, _, .int z, rfl, rfl, hS1.sql, at_of (j := pos.toNat) (by omega) (by rw [List.getElem?_map, hz]; rfl), ?_⟩
      refine ⟨_, rfl, r, _, 2, _, rfl, rfl, SqL.of h1, atI_nat (j := 2) rfl, _, _, rfl, rfl, .inr ⟨by decide, by decide⟩, _, rfl, _, _, rfl, rfl, _, _, rfl, rfl, _, _, rfl, rfl, (by show (0 : Int) < 2147483647; decide), _, rfl, r, _, _, 2, rfl, rfl, h1, rfl, ?_⟩
      refine ⟨_, rfl, _, rfl, _, _, rfl, rfl, hm, ?_⟩
      refine q _ _ (Int.emod_nonneg _ (by omega)) (Int.emod_lt_of_pos _ hm) ⟨a, ns, pos + 1, _, by omega, upd_same, hS1.put h1⟩ (sb_upd b1)
end
/-! ### the law's disks: any good one -/
abbrev s_l_disk : Stmt := top 44
def sp_l_disk (K : PySem.W.Frag) : Sp := fun vs H Q _ => ∃ (r : Addr), vs = [.ref r] ∧ RowAt K H r ∧ ∀ (H' : Hp) (p : Addr) (d : Disk), GoodDisk d → RowAt K H' r → SameBut r H H' → p ≠ r → H' p = some (.tup ([d.tr, d.sc, d.pa, d.he].map V.int)) → Q (.ref p) H'
theorem sc_l_disk : FnScope ["_law_row", "_law_tracks", "_law_sectors"] ["_law_row"] (defScope s_l_disk) := ⟨rfl, rfl, rfl, by decide +kernel, rfl, by decide +kernel, by decide +kernel⟩
theorem row_keep {K : PySem.W.Frag} {H H' : Hp} {r p : Addr} {o : HO} (h : RowAt K H r) (e : H p = some o) (n : p ≠ r) (s : SameBut r H H') : H' p = some o := s _ _ n e
section
variable {P : Program} {w : World} {K : PySem.W.Frag} {mg : Str → Option Value} {base : Heap}
theorem ok_l_disk {f fT : Addr} {fd fdT : FuncData} (F : Fun K "_law_disk" "_law_disk" s_l_disk f fd) (GT : FnOk P w K mg base CX0 1 fT fdT ["_law_row", "_law_many"] (sp_l_taken K)) (gT : mg "_law_taken" = some (.ref fT)) (kT : PySem.W.keepIn K (.ref fT) = true) (bT : Binds K fdT ["_law_row", "_law_many"] []) :
    FnOk P w K mg base CX0 2 f fd ["_law_row"] (sp_l_disk K) := by
  refine F.ok sc_l_disk (fun vs H Q E h => ?_) (fun cdv A outer s H vs Q E hr h => ?_)
  · obtain ⟨r, rfl, _⟩ := h
    rfl
  · obtain ⟨r, rfl, hR, q⟩ := h
    have nd := sc_l_disk.nd
    have hr1 : Room 1 _ := hr
    refine ⟨_, pss_cons (ps_set (i := 1) nd rfl (.inl rfl) (pe_op op_add pe_int (pe_call GT hr1 rfl gT kT bT .nil pass0 (pa_cons (pv 0) (pa_cons (pe_ix ix_list (pe_lst (pa_cons pe_int (pa_cons pe_int pa_nil))) (pe_call GT hr1 rfl gT kT bT .nil pass0 (pa_cons (pv 0) (pa_cons pe_int pa_nil))) (fun _ _ => rfl)) pa_nil)))))
      (pss_cons (ps_set (i := 2) nd rfl (.inl rfl) (pe_op op_add pe_int (pe_call GT hr1 rfl gT kT bT .nil pass0 (pa_cons (pv 0) (pa_cons (pe_ix ix_list (pe_lst (pa_cons pe_int (pa_cons pe_int pa_nil))) (pe_call GT hr1 rfl gT kT bT .nil pass0 (pa_cons (pv 0) (pa_cons pe_int pa_nil))) (fun _ _ => rfl)) pa_nil)))))
      (pss_one (ps_ret (pe_tup (pa_cons (pv 1) (pa_cons (pv 2) (pa_cons (pe_op op_add pe_int (pe_call GT hr1 rfl gT kT bT .nil pass0 (pa_cons (pv 0) (pa_cons pe_int pa_nil)))) (pa_cons (pe_call GT hr1 rfl gT kT bT .nil pass0 (pa_cons (pv 0) (pa_cons (pv 1) pa_nil))) pa_nil)))))))), ?_⟩
    refine ⟨_, rfl, (by show 2 ≤ sizeLine; decide), fun L hL => ?_⟩
    have nL := hR.ne hL
    refine ⟨_, rfl, r, 2, rfl, hR.but (same_new hL), by decide, fun H1 v v0 v1 hR1 s1 => ?_⟩
    have eL : H1 L = some (.lst [.int 8, .int 64]) := s1 _ _ nL upd_same
    have sb1 : SameBut r H H1 := sb_trans (sb_of (same_new hL)) s1
    obtain ⟨k, hk, k8⟩ : ∃ k : Int, atI [V.int 8, .int 64] v = some (.int k) ∧ (1 ≤ k ∧ k ≤ 64) := by
      rcases (by omega : v = 0 ∨ v = 1) with rfl | rfl
      · exact ⟨8, rfl, by decide⟩
      · exact ⟨64, rfl, by decide⟩
    refine ⟨L, _, v, _, rfl, rfl, SqL.of eL, hk, r, k, rfl, hR1, by omega, fun H2 v2 v20 v21 hR2 s2 => ?_⟩
    have sb2 := sb_trans sb1 s2
    refine ⟨_, _, rfl, rfl, ?_⟩
    refine ⟨_, rfl, (by show 2 ≤ sizeLine; decide), fun L2 hL2 => ?_⟩
    have nL2 := hR2.ne hL2
    refine ⟨_, rfl, r, 2, rfl, hR2.but (same_new hL2), by decide, fun H3 v3 v30 v31 hR3 s3 => ?_⟩
    have eL2 : H3 L2 = some (.lst [.int 4, .int 16]) := s3 _ _ nL2 upd_same
    have sb3 : SameBut r H H3 := sb_trans sb2 (sb_trans (sb_of (same_new hL2)) s3)
    obtain ⟨k2, hk2, k28⟩ : ∃ k : Int, atI [V.int 4, .int 16] v3 = some (.int k) ∧ (1 ≤ k ∧ k ≤ 16) := by
      rcases (by omega : v3 = 0 ∨ v3 = 1) with rfl | rfl
      · exact ⟨4, rfl, by decide⟩
      · exact ⟨16, rfl, by decide⟩
    refine ⟨L2, _, v3, _, rfl, rfl, SqL.of eL2, hk2, r, k2, rfl, hR3, by omega, fun H4 v4 v40 v41 hR4 s4 => ?_⟩
    have sb4 := sb_trans sb3 s4
    refine ⟨_, _, rfl, rfl, ?_⟩
    refine ⟨_, rfl, _, rfl, _, rfl, r, 4, rfl, hR4, by decide, fun H5 v5 v50 v51 hR5 s5 => ?_⟩
    refine ⟨_, _, rfl, rfl, _, rfl, _, rfl, r, 1 + v2, rfl, hR5, by omega, fun H6 v6 v60 v61 hR6 s6 => ?_⟩
    refine ⟨(by show 4 ≤ sizeLine; decide), fun p hp => ?_⟩
    have sb6 := sb_trans sb4 (sb_trans s5 s6)
    exact q _ p ⟨1 + v2, 1 + v4, 1 + v5, v6⟩ ⟨by show 1 ≤ 1 + v2; omega, by show 1 + v2 ≤ 64; omega, by show 1 ≤ 1 + v4; omega, by show 1 + v4 ≤ 16; omega, by show 1 ≤ 1 + v5; omega, by show 1 + v5 ≤ 4; omega, v60, v61⟩
      (hR6.but (same_new hp)) (sb_new sb6 hp) (hR6.ne hp) upd_same
end
/-! ### the law's asks: any good ones, no more than it says -/
abbrev s_l_asks : Stmt := top 45
def sp_l_asks (K : PySem.W.Frag) : Sp := fun vs H Q _ => ∃ (r : Addr) (v : V) (d : Disk) (most : Int), vs = [.ref r, v, .int most] ∧ RowAt K H r ∧ Dp K (wo H r) v (dDisk d) ∧ GoodDisk d ∧ 0 ≤ most ∧ most ≤ 40 ∧
  ∀ (H' : Hp) (p : Addr) (l : List Ask) (xs : List V), GoodAsks d l → (l.length : Int) ≤ most → RowAt K H' r → SameBut r H H' → p ≠ r → H p = none → H' p = some (.lst xs) → DpAll K (wo (wo H' r) p) xs (l.map dAsk) → Q (.ref p) H'
theorem sc_l_asks : FnScope ["_law_row", "_law_disk_here", "_law_most", "_law_often", "_law_few", "_law_found", "_law_k"] ["_law_row", "_law_disk_here", "_law_most"] (defScope s_l_asks) := ⟨rfl, rfl, rfl, by decide +kernel, rfl, by decide +kernel, by decide +kernel⟩
section
variable {P : Program} {w : World} {K : PySem.W.Frag} {mg : Str → Option Value} {base : Heap}
theorem ok_l_asks {f fT : Addr} {fd fdT : FuncData} (F : Fun K "_law_asks" "_law_asks" s_l_asks f fd) (GT : FnOk P w K mg base CX0 1 fT fdT ["_law_row", "_law_many"] (sp_l_taken K)) (gT : mg "_law_taken" = some (.ref fT)) (kT : PySem.W.keepIn K (.ref fT) = true) (bT : Binds K fdT ["_law_row", "_law_many"] [])
    (mm : mg "min" = none) (mr : mg "range" = none) : FnOk P w K mg base CX0 2 f fd ["_law_row", "_law_disk_here", "_law_most"] (sp_l_asks K) := by
  refine F.ok sc_l_asks (fun vs H Q E h => ?_) (fun cdv A outer s H vs Q E hr h => ?_)
  · obtain ⟨r, v, d, most, rfl, _⟩ := h
    rfl
  · obtain ⟨r, v, d, most, rfl, hR, hd, g, m0, m40, q⟩ := h
    obtain ⟨a, rfl, hT⟩ := dp_disk hd
    have nd := sc_l_asks.nd
    have hr1 : Room 1 _ := hr
    have hTB : ∀ {H' : Hp}, SameBut r H H' → SqT K H' a [.int d.tr, .int d.sc, .int d.pa, .int d.he] := fun s => same_sqt wo_sub (same_sqt (sb_wo s) hT)
    refine ⟨_, pss_cons (ps_set (i := 3) nd rfl (.inl rfl) (pe_ix ix_list (pe_lst (pa_cons pe_int (pa_cons pe_int (pa_cons pe_int (pa_cons pe_int pa_nil))))) (pe_call GT hr1 rfl gT kT bT .nil pass0 (pa_cons (pv 0) (pa_cons pe_int pa_nil))) (fun _ _ => rfl)))
      (pss_cons (ps_set (i := 4) nd rfl (.inl rfl) (pe_ix ix_list (pe_lst (pa_cons (pe_ix ix_tup (pv 1) pe_int (fun _ _ => rfl)) (pa_cons (pe_callB (call_min2 rfl) (by rfl) mm (by decide +kernel) (pa_cons (pe_ix ix_tup (pv 1) pe_int (fun _ _ => rfl)) (pa_cons pe_int pa_nil))) pa_nil))) (pe_call GT hr1 rfl gT kT bT .nil pass0 (pa_cons (pv 0) (pa_cons pe_int pa_nil))) (fun _ _ => rfl)))
      (pss_cons (ps_set (i := 5) nd rfl (.inl rfl) (pe_lst pa_nil))
      (pss_cons (ps_for PassesOwn.never rfl (pi_range1 rfl mr (pa_cons (pe_call GT hr1 rfl gT kT bT .nil pass0 (pa_cons (pv 0) (pa_cons (pe_op op_add (pv 2) pe_int) pa_nil))) pa_nil)) (pg_name (i := 6) nd rfl (.inl rfl))
        (pss_one (ps_expr (pe_bm PySem.F.plainAttrs_list PySem.F.slot_list_append PySem.F.type_list_append mt_append (pv 5) (pa_cons (pe_tup (pa_cons (pe_call GT hr1 rfl gT kT bT .nil pass0 (pa_cons (pv 0) (pa_cons (pv 3) pa_nil))) (pa_cons (pe_call GT hr1 rfl gT kT bT .nil pass0 (pa_cons (pv 0) (pa_cons (pv 4) pa_nil)))
          (pa_cons (pe_call GT hr1 rfl gT kT bT .nil pass0 (pa_cons (pv 0) (pa_cons (pe_ix ix_tup (pv 1) pe_int (fun _ _ => rfl)) pa_nil))) pa_nil)))) pa_nil)))))
      (pss_one (ps_ret (pv 5)))))), ?_⟩
    refine ⟨(by show 4 ≤ sizeLine; decide), fun L hL => ?_⟩
    have nL := hR.ne hL
    refine ⟨_, rfl, r, 4, rfl, hR.but (same_new hL), by decide, fun H1 v v0 v1 hR1 s1 => ?_⟩
    have eL : H1 L = some (.lst [.int 1, .int 5, .int 60, .int 1000]) := s1 _ _ nL upd_same
    have sb1 : SameBut r H H1 := sb_trans (sb_of (same_new hL)) s1
    obtain ⟨k, hk, k8⟩ : ∃ k : Int, atI [V.int 1, .int 5, .int 60, .int 1000] v = some (.int k) ∧ (1 ≤ k ∧ k ≤ 1000) := by
      rcases (by omega : v = 0 ∨ v = 1 ∨ v = 2 ∨ v = 3) with rfl | rfl | rfl | rfl
      · exact ⟨1, rfl, by decide⟩
      · exact ⟨5, rfl, by decide⟩
      · exact ⟨60, rfl, by decide⟩
      · exact ⟨1000, rfl, by decide⟩
    refine ⟨L, _, v, _, rfl, rfl, SqL.of eL, hk, ?_⟩
    refine ⟨_, rfl, a, _, 0, _, rfl, rfl, hTB sb1, atI_nat (j := 0) rfl, _, rfl, a, _, 0, _, rfl, rfl, hTB sb1, atI_nat (j := 0) rfl, _, _, rfl, (by show 2 ≤ sizeLine; decide), fun L2 hL2 => ?_⟩
    have nL2 := hR1.ne hL2
    refine ⟨_, rfl, r, 2, rfl, hR1.but (same_new hL2), by decide, fun H2 v2 v20 v21 hR2 s2 => ?_⟩
    have eL2 : H2 L2 = some (.lst [.int d.tr, .int (if (4 : Int) < d.tr then 4 else d.tr)]) := s2 _ _ nL2 upd_same
    have sb2 : SameBut r H H2 := sb_trans sb1 (sb_trans (sb_of (same_new hL2)) s2)
    have ht1 := g.t1
    obtain ⟨k2, hk2, k28⟩ : ∃ k : Int, atI [V.int d.tr, .int (if (4 : Int) < d.tr then 4 else d.tr)] v2 = some (.int k) ∧ (1 ≤ k ∧ k ≤ d.tr) := by
      rcases (by omega : v2 = 0 ∨ v2 = 1) with rfl | rfl
      · exact ⟨d.tr, rfl, by omega⟩
      · exact ⟨_, rfl, by split <;> omega⟩
    refine ⟨L2, _, v2, _, rfl, rfl, SqL.of eL2, hk2, Nat.zero_le _, fun F hF => ?_⟩
    have nF := hR2.ne hF
    have hF0 : H F = none := sb_free sb2 nF hF
    refine ⟨_, rfl, _, rfl, _, _, rfl, rfl, r, most + 1, rfl, hR2.but (same_new hF), by omega, fun H3 n n0 n1 hR3 s3 => ?_⟩
    have sb3 : SameBut r H H3 := sb_trans sb2 (sb_trans (sb_of (same_new hF)) s3)
    have eF3 : H3 F = some (.lst []) := s3 _ _ nF upd_same
    refine ⟨n, rfl, by omega, by omega, ?_⟩
    refine for_range (lo := 0) (n := n.toNat) (fun i σ H' => RowAt K H' r ∧ SameBut r H H' ∧ ∃ (l : List Ask) (xs : List V) (v6 : Option V), σ = [some (.ref r), some (.ref a), some (.int most), some (.int k), some (.int k2), some (.ref F), v6] ∧
        l.length = i ∧ xs.length = i ∧ (∀ x ∈ l, GoodAsk d x) ∧ H' F = some (.lst xs) ∧ DpAll K (wo (wo H' r) F) xs (l.map dAsk)) ⟨hR3, sb3, [], [], none, rfl, rfl, rfl, fun x hx => absurd hx (by simp), eF3, .nil⟩ ?_ ?_
    · rintro i σ H' hi ⟨hR', sb', l, xs, v6, rfl, hl, hx, hg, eF, hda⟩
      refine ⟨_, rfl, .inl ⟨rfl, _, SqL.of eF⟩, ?_⟩
      refine ⟨_, rfl, _, rfl, r, k, rfl, hR', by omega, fun H4 c c0 c1 hR4 s4 => ?_⟩
      refine ⟨_, rfl, _, rfl, r, k2, rfl, hR4, by omega, fun H5 t t0 t1 hR5 s5 => ?_⟩
      have sb5 := sb_trans sb' (sb_trans s4 s5)
      refine ⟨_, rfl, _, rfl, a, _, 1, _, rfl, rfl, hTB sb5, atI_nat (j := 1) rfl, r, d.sc, rfl, hR5, (by have := g.s1; omega), fun H6 z z0 z1 hR6 s6 => ?_⟩
      refine ⟨(by show 3 ≤ sizeLine; decide), fun p hp => ?_⟩
      have sb6 := sb_trans sb5 s6
      have sF6 := sb_trans s4 (sb_trans s5 s6)
      have eF6 : H6 F = some (.lst xs) := sF6 _ _ nF eF
      have nFp : F ≠ p := ne_of_none eF6 hp
      have npr : p ≠ r := hR6.ne hp
      refine ⟨F, xs, .ref p, rfl, rfl, by rw [upd_ne nFp]; exact eF6, small1000 (by omega), ?_⟩
      refine ⟨(hR6.but (same_new hp)).put nF (by rw [upd_ne nFp]; exact eF6), sb_old (sb_new sb6 hp) hF0, l ++ [(c, t, z)], xs ++ [.ref p], some (.int (0 + (i : Int))), rfl, by rw [List.length_append, hl]; rfl, by rw [List.length_append, hx]; rfl, ?_, upd_same, ?_⟩
      · intro x hx'
        rcases List.mem_append.mp hx' with h | h
        · exact hg x h
        · rw [List.mem_singleton.mp h]
          exact ⟨c0, by show c ≤ 999; omega, t0, by show t < d.tr; omega, z0, z1⟩
      · rw [List.map_append]
        refine dpa_snoc (dpa_same ?_ hda) ?_
        · exact wo2_step fun b o n1 n2 e => by rw [upd_ne n2, upd_ne (ne_of_none (sF6 b o n1 e) hp)]; exact sF6 b o n1 e
        · exact dp_tints_of (ns := [c, t, z]) (.inl (.inl (by rw [wo_ne nFp.symm, wo_ne npr, upd_ne nFp.symm, upd_same]; rfl)))
    · rintro σ H' ⟨hR', sb', l, xs, v6, rfl, hl, hx, hg, eF, hda⟩
      exact ⟨_, rfl, q H' F l xs ⟨by omega, hg⟩ (by omega) hR' sb' nF hF0 eF hda⟩
end
end Ag

namespace Ag
open PySem PySem.Spec PyProof.Rows L2
/-! ### the law's other disk: any four numbers -/
theorem catA_of {K : PySem.W.Frag} {H : Hp} {a b : Addr} {xs ys : List V} {Q : VK} (ha : H a = some (.tup xs)) (hb : H b = some (.tup ys)) (hz : xs.length + ys.length ≤ sizeLine) (q : ∀ p H', Same H H' → H' p = some (.tup (xs ++ ys)) → Q (.ref p) H') : rCatA K (.ref a) (.ref b) H Q :=
  ⟨a, b, xs, ys, rfl, rfl, SqT.of ha, SqT.of hb, hz, fun e => q b H (Same.refl H) (by rw [e]; exact hb), fun _ e => q a H (Same.refl H) (by rw [e, List.append_nil]; exact ha), fun _ _ p hp => q p _ (same_new hp) upd_same⟩
abbrev s_l_odd_disk : Stmt := top 48
def sp_l_odd_disk (K : PySem.W.Frag) : Sp := fun vs H Q _ => ∃ (r : Addr) (v : V) (d : Disk), vs = [.ref r, v] ∧ RowAt K H r ∧ Dp K (wo H r) v (dDisk d) ∧ ∀ (H' : Hp) (p : Addr) (d' : Disk), RowAt K H' r → SameBut r H H' → p ≠ r → H' p = some (.tup ([d'.tr, d'.sc, d'.pa, d'.he].map V.int)) → Q (.ref p) H'
theorem sc_l_odd_disk : FnScope ["_law_row", "_law_disk_here", "_law_far", "_law_k", "_law_more", "_law_odd"] ["_law_row", "_law_disk_here"] (defScope s_l_odd_disk) := ⟨rfl, rfl, rfl, by decide +kernel, rfl, by decide +kernel, by decide +kernel⟩
section
variable {P : Program} {w : World} {K : PySem.W.Frag} {mg : Str → Option Value} {base : Heap}
theorem ok_l_odd_disk {f fT : Addr} {fd fdT : FuncData} (F : Fun K "_law_odd_disk" "_law_odd_disk" s_l_odd_disk f fd) (G__law_taken : FnOk P w K mg base CX0 1 fT fdT ["_law_row", "_law_many"] (sp_l_taken K)) (C__law_taken : Cal K mg "_law_taken" fT fdT ["_law_row", "_law_many"]) :
    FnOk P w K mg base CX0 2 f fd ["_law_row", "_law_disk_here"] (sp_l_odd_disk K) := by
  refine F.ok sc_l_odd_disk (fun vs H Q E h => ?_) (fun cdv A outer s H vs Q E hr h => ?_)
  · obtain ⟨r, v, d, rfl, _⟩ := h
    rfl
  · obtain ⟨r, v, d, rfl, hR, hd, q⟩ := h
    obtain ⟨a, rfl, hT⟩ := dp_disk hd
    have nd := sc_l_odd_disk.nd
    have hr__law_taken : Room 1 _ := hr
    have hTB : ∀ {H' : Hp}, SameBut r H H' → SqT K H' a [.int d.tr, .int d.sc, .int d.pa, .int d.he] := fun s => same_sqt wo_sub (same_sqt (sb_wo s) hT)
    refine ⟨_, (pss_cons (ps_set (i := 2) nd rfl (.inl rfl) (pe_call G__law_taken hr__law_taken rfl C__law_taken.m C__law_taken.k C__law_taken.b .nil pass0 (pa_cons (pv 0) (pa_cons pe_int pa_nil))))
      (pss_cons (ps_set (i := 3) nd rfl (.inl rfl) (pe_call G__law_taken hr__law_taken rfl C__law_taken.m C__law_taken.k C__law_taken.b .nil pass0 (pa_cons (pv 0) (pa_cons pe_int pa_nil))))
      (pss_cons (ps_set (i := 4) nd rfl (.inl rfl) (pe_ix (r := rIxL K) ix_list (pe_lst (pa_cons pe_int (pa_cons pe_int (pa_cons pe_int (pa_cons (pe_ix (r := rIxT K) ix_tup (pv 1) pe_int (fun _ _ => rfl)) pa_nil))))) (pv 3) (fun _ _ => rfl)))
      (pss_cons (ps_set (i := 5) nd rfl (.inl rfl) (pe_ix (r := rIxL K) ix_list (pe_lst (pa_cons pe_int (pa_cons (pe_op op_sub (pe_op op_sub pe_int pe_int) (pv 2)) (pa_cons (pe_op op_add (pv 4) (pv 2)) (pa_cons (pv 4) (pa_cons (pe_ix (r := rIxL K) ix_list (pe_lst (pa_cons pe_int (pa_cons pe_int (pa_cons pe_int (pa_cons pe_int pa_nil))))) (pv 3) (fun _ _ => rfl)) pa_nil)))))) (pe_call G__law_taken hr__law_taken rfl C__law_taken.m C__law_taken.k C__law_taken.b .nil pass0 (pa_cons (pv 0) (pa_cons pe_int pa_nil))) (fun _ _ => rfl)))
      (pss_one (ps_ret (pe_op (r := rCatA K) op_catA (pe_op (r := rCatA K) op_catA (pe_slice (r := rSlT K) sl_tup (pv 1) po_none (po_some (pv 3))) (pe_tup (pa_cons (pv 5) pa_nil))) (pe_slice (r := rSlT K) sl_tup (pv 1) (po_some (pe_op op_add (pv 3) pe_int)) po_none)))))))), ?_⟩
    refine ⟨_, rfl, r, 1000, rfl, hR, by decide, fun H1 far _ _ hR1 b1 => ?_⟩
    refine ⟨_, rfl, r, 4, rfl, hR1, by decide, fun H2 k k0 k4 hR2 b2 => ?_⟩
    have b02 := sb_trans b1 b2
    refine ⟨_, rfl, a, _, 0, _, rfl, rfl, hTB b02, atI_nat (j := 0) rfl, (by show 4 ≤ sizeLine; decide), fun L hL => ?_⟩
    have b03 := sb_new b02 hL (o := .lst [.int 65, .int 17, .int 5, .int d.tr])
    have hR3 := hR2.but (same_new (o := .lst [.int 65, .int 17, .int 5, .int d.tr]) hL)
    obtain ⟨m, hm⟩ : ∃ m : Int, atI [V.int 65, .int 17, .int 5, .int d.tr] k = some (.int m) := by
      rcases (by omega : k = 0 ∨ k = 1 ∨ k = 2 ∨ k = 3) with rfl | rfl | rfl | rfl <;> exact ⟨_, rfl⟩
    refine ⟨_, rfl, L, _, k, _, rfl, rfl, SqL.of upd_same, hm, ?_⟩
    revert b03 hR3
    generalize upd H2 L (.lst [.int 65, .int 17, .int 5, .int d.tr]) = H3
    intro b03 hR3
    refine ⟨_, _, rfl, rfl, _, rfl, _, _, rfl, rfl, _, rfl, _, rfl, _, _, rfl, rfl, _, rfl, (by show 4 ≤ sizeLine; decide), fun L2 hL2 => ?_⟩
    obtain ⟨m2, hm2⟩ : ∃ m : Int, atI [V.int 64, .int 16, .int 4, .int 0] k = some (.int m) := by
      rcases (by omega : k = 0 ∨ k = 1 ∨ k = 2 ∨ k = 3) with rfl | rfl | rfl | rfl <;> exact ⟨_, rfl⟩
    have b04 := sb_new b03 hL2 (o := .lst [.int 64, .int 16, .int 4, .int 0])
    have hR4 := hR3.but (same_new (o := .lst [.int 64, .int 16, .int 4, .int 0]) hL2)
    refine ⟨_, rfl, L2, _, k, _, rfl, rfl, SqL.of upd_same, hm2, (by show 5 ≤ sizeLine; decide), fun L3 hL3 => ?_⟩
    have b05 := sb_new b04 hL3 (o := .lst [.int 0, .int (0 - 1 - far), .int (m + far), .int m, .int m2])
    have hR5 := hR4.but (same_new (o := .lst [.int 0, .int (0 - 1 - far), .int (m + far), .int m, .int m2]) hL3)
    have nL3 := hR4.ne hL3
    refine ⟨_, rfl, r, 5, rfl, hR5, by decide, fun H4 z z0 z5 hR6 b6 => ?_⟩
    have b06 := sb_trans b05 b6
    have eL3 : H4 L3 = some (.lst [.int 0, .int (0 - 1 - far), .int (m + far), .int m, .int m2]) := b6 _ _ nL3 upd_same
    obtain ⟨o, ho⟩ : ∃ o : Int, atI [V.int 0, .int (0 - 1 - far), .int (m + far), .int m, .int m2] z = some (.int o) := by
      rcases (by omega : z = 0 ∨ z = 1 ∨ z = 2 ∨ z = 3 ∨ z = 4) with rfl | rfl | rfl | rfl | rfl <;> exact ⟨_, rfl⟩
    refine ⟨L3, _, z, _, rfl, rfl, SqL.of eL3, ho, ?_⟩
    clear hm hm2 ho eL3 hR5 b05 hR4 b04 hR3 b03
    have hT4 := hTB b06
    have k4' : k = 0 ∨ k = 1 ∨ k = 2 ∨ k = 3 := by omega
    refine ⟨_, rfl, _, rfl, k, rfl, a, _, rfl, hT4, (by show ¬ (HT.sIx 4 0 none = 0 ∧ HT.sIx 4 4 (some k) = 4); rcases k4' with rfl | rfl | rfl | rfl <;> decide), fun p1 h1 => ?_⟩
    have s1 := same_new (o := .tup (cutV [.int d.tr, .int d.sc, .int d.pa, .int d.he] none (some k))) h1
    refine ⟨_, rfl, (by show 1 ≤ sizeLine; decide), fun p2 h2 => ?_⟩
    have s2 := same_new (o := .tup [.int o]) h2
    have l1 : (cutV [V.int d.tr, .int d.sc, .int d.pa, .int d.he] none (some k)).length ≤ 4 := by rcases k4' with rfl | rfl | rfl | rfl <;> exact of_decide_eq_true rfl
    have l2 : (cutV [V.int d.tr, .int d.sc, .int d.pa, .int d.he] (some (k + 1)) none).length ≤ 4 := by rcases k4' with rfl | rfl | rfl | rfl <;> exact of_decide_eq_true rfl
    have hsl := sizeLine_eq
    refine catA_of (s2 _ _ upd_same) upd_same (by show _ + 1 ≤ sizeLine; omega) fun p3 H5 s3 e3 => ?_
    refine ⟨_, rfl, _, rfl, _, _, rfl, rfl, k + 1, rfl, a, _, rfl, same_sqt (s1.trans (s2.trans s3)) hT4, (by show ¬ (HT.sIx 4 0 (some (k + 1)) = 0 ∧ HT.sIx 4 4 none = 4); rcases k4' with rfl | rfl | rfl | rfl <;> decide), fun p4 h4 => ?_⟩
    have s4 := same_new (o := .tup (cutV [.int d.tr, .int d.sc, .int d.pa, .int d.he] (some (k + 1)) none)) h4
    refine catA_of (s4 _ _ e3) upd_same (by rw [List.length_append]; show _ + 1 + _ ≤ sizeLine; omega) fun p5 H6 s5 e5 => ?_
    have sA := s1.trans (s2.trans (s3.trans (s4.trans s5)))
    have hR7 := hR6.but sA
    have np : p5 ≠ r := by
      obtain ⟨_, _, _, _, _, hr0, _⟩ := hR7
      exact ne_of e5 hr0 (by intro z; cases z)
    have b7 : SameBut r H H6 := sb_trans b06 (sb_of sA)
    rcases k4' with rfl | rfl | rfl | rfl
    · exact q _ p5 ⟨o, d.sc, d.pa, d.he⟩ hR7 b7 np e5
    · exact q _ p5 ⟨d.tr, o, d.pa, d.he⟩ hR7 b7 np e5
    · exact q _ p5 ⟨d.tr, d.sc, o, d.he⟩ hR7 b7 np e5
    · exact q _ p5 ⟨d.tr, d.sc, d.pa, o⟩ hR7 b7 np e5
end
end Ag

namespace Ag
open PySem PySem.Spec PyProof.Rows L2
/-! ### the law's ask that is none -/
abbrev s_l_odd_ask : Stmt := top 49
def sp_l_odd_ask (K : PySem.W.Frag) : Sp := fun vs H Q _ => ∃ (r : Addr) (v : V) (d : Disk), vs = [.ref r, v] ∧ RowAt K H r ∧ Dp K (wo H r) v (dDisk d) ∧ ∀ (H' : Hp) (p : Addr) (k : Ask), ¬ GoodAsk d k → RowAt K H' r → SameBut r H H' → p ≠ r → H' p = some (.tup ([k.1, k.2.1, k.2.2].map V.int)) → Q (.ref p) H'
theorem sc_l_odd_ask : FnScope ["_law_row", "_law_disk_here", "_law_far", "_law_some"] ["_law_row", "_law_disk_here"] (defScope s_l_odd_ask) := ⟨rfl, rfl, rfl, by decide +kernel, rfl, by decide +kernel, by decide +kernel⟩
section
variable {P : Program} {w : World} {K : PySem.W.Frag} {mg : Str → Option Value} {base : Heap}
theorem ok_l_odd_ask {f fT : Addr} {fd fdT : FuncData} (F : Fun K "_law_odd_ask" "_law_odd_ask" s_l_odd_ask f fd) (G__law_taken : FnOk P w K mg base CX0 1 fT fdT ["_law_row", "_law_many"] (sp_l_taken K)) (C__law_taken : Cal K mg "_law_taken" fT fdT ["_law_row", "_law_many"]) :
    FnOk P w K mg base CX0 2 f fd ["_law_row", "_law_disk_here"] (sp_l_odd_ask K) := by
  refine F.ok sc_l_odd_ask (fun vs H Q E h => ?_) (fun cdv A outer s H vs Q E hr h => ?_)
  · obtain ⟨r, v, d, rfl, _⟩ := h
    rfl
  · obtain ⟨r, v, d, rfl, hR, hd, q⟩ := h
    obtain ⟨a, rfl, hT⟩ := dp_disk hd
    have nd := sc_l_odd_ask.nd
    have hr__law_taken : Room 1 _ := hr
    have hTB : ∀ {H' : Hp}, SameBut r H H' → SqT K H' a [.int d.tr, .int d.sc, .int d.pa, .int d.he] := fun s => same_sqt wo_sub (same_sqt (sb_wo s) hT)
    refine ⟨_, (pss_cons (ps_set (i := 2) nd rfl (.inl rfl) (pe_call G__law_taken hr__law_taken rfl C__law_taken.m C__law_taken.k C__law_taken.b .nil pass0 (pa_cons (pv 0) (pa_cons pe_int pa_nil))))
      (pss_cons (ps_set (i := 3) nd rfl (.inl rfl) (pe_lst (pa_cons (pe_tup (pa_cons (pe_op op_sub (pe_op op_sub pe_int pe_int) (pv 2)) (pa_cons pe_int (pa_cons pe_int pa_nil)))) (pa_cons (pe_tup (pa_cons (pe_op op_add pe_int (pv 2)) (pa_cons pe_int (pa_cons pe_int pa_nil)))) (pa_cons (pe_tup (pa_cons pe_int (pa_cons (pe_op op_add (pe_ix (r := rIxT K) ix_tup (pv 1) pe_int (fun _ _ => rfl)) (pv 2)) (pa_cons pe_int pa_nil)))) (pa_cons (pe_tup (pa_cons pe_int (pa_cons (pe_op op_sub (pe_op op_sub pe_int pe_int) (pv 2)) (pa_cons pe_int pa_nil)))) (pa_cons (pe_tup (pa_cons pe_int (pa_cons pe_int (pa_cons (pe_op op_add (pe_ix (r := rIxT K) ix_tup (pv 1) pe_int (fun _ _ => rfl)) (pv 2)) pa_nil)))) pa_nil)))))))
      (pss_one (ps_ret (pe_ix (r := rIxL K) ix_list (pe_op op_cat (pv 3) (pe_lst (pa_cons (pe_tup (pa_cons pe_int (pa_cons pe_int (pa_cons (pe_op op_sub (pe_op op_sub pe_int pe_int) (pv 2)) pa_nil)))) pa_nil))) (pe_call G__law_taken hr__law_taken rfl C__law_taken.m C__law_taken.k C__law_taken.b .nil pass0 (pa_cons (pv 0) (pa_cons pe_int pa_nil))) (fun _ _ => rfl)))))), ?_⟩
    refine ⟨_, rfl, r, 1000, rfl, hR, by decide, fun H1 far f0 _ hR1 b1 => ?_⟩
    refine ⟨_, _, rfl, rfl, _, rfl, _, _, rfl, rfl, (by show 3 ≤ sizeLine; decide), fun t1 h1 => ?_⟩
    have s1 := same_new (o := .tup [.int (0 - 1 - far), .int 0, .int 0]) h1
    have g1 : upd H1 t1 (.tup [.int (0 - 1 - far), .int 0, .int 0]) t1 = some (.tup [.int (0 - 1 - far), .int 0, .int 0]) := upd_same
    revert s1 g1
    generalize upd H1 t1 (.tup [.int (0 - 1 - far), .int 0, .int 0]) = H2
    intro s1 g1
    refine ⟨_, rfl, _, _, rfl, rfl, (by show 3 ≤ sizeLine; decide), fun t2 h2 => ?_⟩
    have s2 := same_new (o := .tup [.int (1000 + far), .int 0, .int 0]) h2
    have g2 : upd H2 t2 (.tup [.int (1000 + far), .int 0, .int 0]) t2 = some (.tup [.int (1000 + far), .int 0, .int 0]) := upd_same
    revert s2 g2
    generalize upd H2 t2 (.tup [.int (1000 + far), .int 0, .int 0]) = H3
    intro s2 g2
    refine ⟨_, rfl, a, _, 0, _, rfl, rfl, hTB (sb_trans b1 (sb_of (s1.trans s2))), atI_nat (j := 0) rfl, _, rfl, _, _, rfl, rfl, (by show 3 ≤ sizeLine; decide), fun t3 h3 => ?_⟩
    have s3 := same_new (o := .tup [.int 0, .int (d.tr + far), .int 0]) h3
    have g3 : upd H3 t3 (.tup [.int 0, .int (d.tr + far), .int 0]) t3 = some (.tup [.int 0, .int (d.tr + far), .int 0]) := upd_same
    revert s3 g3
    generalize upd H3 t3 (.tup [.int 0, .int (d.tr + far), .int 0]) = H4
    intro s3 g3
    refine ⟨_, _, rfl, rfl, _, rfl, _, _, rfl, rfl, (by show 3 ≤ sizeLine; decide), fun t4 h4 => ?_⟩
    have s4 := same_new (o := .tup [.int 0, .int (0 - 1 - far), .int 0]) h4
    have g4 : upd H4 t4 (.tup [.int 0, .int (0 - 1 - far), .int 0]) t4 = some (.tup [.int 0, .int (0 - 1 - far), .int 0]) := upd_same
    revert s4 g4
    generalize upd H4 t4 (.tup [.int 0, .int (0 - 1 - far), .int 0]) = H5
    intro s4 g4
    have s14 := s1.trans (s2.trans (s3.trans s4))
    refine ⟨_, rfl, a, _, 1, _, rfl, rfl, hTB (sb_trans b1 (sb_of s14)), atI_nat (j := 1) rfl, _, rfl, _, _, rfl, rfl, (by show 3 ≤ sizeLine; decide), fun t5 h5 => ?_⟩
    have s5 := same_new (o := .tup [.int 0, .int 0, .int (d.sc + far)]) h5
    have g5 : upd H5 t5 (.tup [.int 0, .int 0, .int (d.sc + far)]) t5 = some (.tup [.int 0, .int 0, .int (d.sc + far)]) := upd_same
    revert s5 g5
    generalize upd H5 t5 (.tup [.int 0, .int 0, .int (d.sc + far)]) = H6
    intro s5 g5
    refine ⟨(by show 5 ≤ sizeLine; decide), fun L hL => ?_⟩
    have s6 := same_new (o := .lst [.ref t1, .ref t2, .ref t3, .ref t4, .ref t5]) hL
    have gL : upd H6 L (.lst [.ref t1, .ref t2, .ref t3, .ref t4, .ref t5]) L = some (.lst [.ref t1, .ref t2, .ref t3, .ref t4, .ref t5]) := upd_same
    show gName 3 (V.ref L) [some (.ref r), some (.ref a), some (.int far), none] (upd H6 L (.lst [.ref t1, .ref t2, .ref t3, .ref t4, .ref t5])) _
    revert s6 gL
    generalize upd H6 L (.lst [.ref t1, .ref t2, .ref t3, .ref t4, .ref t5]) = H7
    intro s6 gL
    refine ⟨_, rfl, _, _, rfl, rfl, _, rfl, _, _, rfl, rfl, (by show 3 ≤ sizeLine; decide), fun t6 h6 => ?_⟩
    have s7 := same_new (o := .tup [.int 0, .int 0, .int (0 - 1 - far)]) h6
    have g6 : upd H7 t6 (.tup [.int 0, .int 0, .int (0 - 1 - far)]) t6 = some (.tup [.int 0, .int 0, .int (0 - 1 - far)]) := upd_same
    revert s7 g6
    generalize upd H7 t6 (.tup [.int 0, .int 0, .int (0 - 1 - far)]) = H8
    intro s7 g6
    refine ⟨(by show 1 ≤ sizeLine; decide), fun L1 hL1 => ?_⟩
    have s8 := same_new (o := .lst [.ref t6]) hL1
    refine ⟨L, L1, _, _, rfl, rfl, s8 _ _ (s7 _ _ gL), upd_same, (by show 5 + 1 ≤ sizeLine; decide), fun L2 hL2 => ?_⟩
    have s9 := same_new (o := .lst ([.ref t1, .ref t2, .ref t3, .ref t4, .ref t5] ++ [.ref t6])) hL2
    have sA := s14.trans (s5.trans (s6.trans (s7.trans (s8.trans s9))))
    have hR2 := hR1.but sA
    have eL2 := upd_same (H := upd H8 L1 (.lst [.ref t6])) (a := L2) (o := HO.lst ([.ref t1, .ref t2, .ref t3, .ref t4, .ref t5] ++ [.ref t6]))
    have q1 := s2.trans (s3.trans (s4.trans (s5.trans (s6.trans (s7.trans (s8.trans s9)))))) _ _ g1
    have q2 := s3.trans (s4.trans (s5.trans (s6.trans (s7.trans (s8.trans s9))))) _ _ g2
    have q3 := s4.trans (s5.trans (s6.trans (s7.trans (s8.trans s9)))) _ _ g3
    have q4 := s5.trans (s6.trans (s7.trans (s8.trans s9))) _ _ g4
    have q5 := s6.trans (s7.trans (s8.trans s9)) _ _ g5
    have q6 := s8.trans s9 _ _ g6
    have nr : ∀ {b : Addr} {xs : List V}, upd (upd H8 L1 (.lst [.ref t6])) L2 (.lst ([.ref t1, .ref t2, .ref t3, .ref t4, .ref t5] ++ [.ref t6])) b = some (.tup xs) → b ≠ r := fun {b xs} e => by
      obtain ⟨_, _, _, _, _, hr0, _⟩ := hR2
      exact ne_of e hr0 (by intro z; cases z)
    have n2 : L2 ≠ r := fun e => by
      obtain ⟨_, _, _, _, _, hr0, _⟩ := hR2
      rw [← e, eL2] at hr0
      cases hr0
    refine ⟨_, rfl, r, 6, rfl, hR2, by decide, fun H9 z z0 z6 hR9 b9 => ?_⟩
    have b0 := sb_trans b1 (sb_trans (sb_of sA) b9)
    have fin : ∀ (t : Addr) (k : Ask), ¬ GoodAsk d k → atI ([V.ref t1, .ref t2, .ref t3, .ref t4, .ref t5] ++ [.ref t6]) z = some (V.ref t) → upd (upd H8 L1 (.lst [.ref t6])) L2 (.lst ([.ref t1, .ref t2, .ref t3, .ref t4, .ref t5] ++ [.ref t6])) t = some (.tup ([k.1, k.2.1, k.2.2].map V.int)) →
        rIxL K (.ref L2) (.int z) H9 fun v H' => Q v H' := fun t k hk hz ht => ⟨L2, _, z, _, rfl, rfl, SqL.of (b9 _ _ n2 eL2), hz, q H9 t k hk hR9 b0 (nr ht) (b9 _ _ (nr ht) ht)⟩
    rcases (by omega : z = 0 ∨ z = 1 ∨ z = 2 ∨ z = 3 ∨ z = 4 ∨ z = 5) with rfl | rfl | rfl | rfl | rfl | rfl
    · exact fin t1 (0 - 1 - far, 0, 0) (fun g => by have := g.c1; simp at this; omega) rfl q1
    · exact fin t2 (1000 + far, 0, 0) (fun g => by have := g.c2; simp at this; omega) rfl q2
    · exact fin t3 (0, d.tr + far, 0) (fun g => by have := g.t2; simp at this; omega) rfl q3
    · exact fin t4 (0, 0 - 1 - far, 0) (fun g => by have := g.t1; simp at this; omega) rfl q4
    · exact fin t5 (0, 0, d.sc + far) (fun g => by have := g.s2; simp at this; omega) rfl q5
    · exact fin t6 (0, 0, 0 - 1 - far) (fun g => by have := g.s1; simp at this; omega) rfl q6
end
end Ag

namespace Ag
open PySem PySem.Spec PyProof.Rows L2
/-! ### the row and the code tables -/
open LamX NdefX
theorem rowAt_nt {K : PySem.W.Frag} {H : Hp} {r : Addr} (h : RowAt K H r) : RowAt K (ntH H) r := by
  obtain ⟨a, ns, pos, mix, h0, h1, h2⟩ := h
  refine ⟨a, ns, pos, mix, h0, ntH_some.mpr ⟨h1, fun ps q => by cases q⟩, ?_⟩
  rcases h2 with ⟨o, h⟩ | h
  · exact .inl ⟨o, ntH_some.mpr ⟨h, fun ps q => by cases q⟩⟩
  · exact .inr h
theorem tabs_row {K : PySem.W.Frag} {T : List (Addr × Str)} {H H' : Hp} {r : Addr} (h : Tabs T H) (hR : RowAt K H r) (s : SameBut r H H') : Tabs T H' := by
  obtain ⟨a, ns, pos, mix, h0, h1, h2⟩ := hR
  exact tabs_but h h1 (by intro _ q; cases q) (by intro _ q; cases q) s
/-! ### what the law builds -/
open LamX NdefX
/-- all is kept but the row and the tables -/
def Rr (r : Addr) (H H' : Hp) : Prop := ∀ b o, b ≠ r → H b = some o → (∀ ps, o ≠ .tbl ps) → H' b = some o
theorem Rr.refl {r : Addr} (H : Hp) : Rr r H H := fun _ _ _ e _ => e
theorem Rr.trans {r : Addr} {H H1 H2 : Hp} (a : Rr r H H1) (b : Rr r H1 H2) : Rr r H H2 := fun c o n e t => b c o n (a c o n e t) t
theorem rr_same {r : Addr} {H H' : Hp} (s : Same H H') : Rr r H H' := fun b o _ e _ => s b o e
theorem rr_nt {r : Addr} {H H' : Hp} (s : Same (ntH H) H') : Rr r H H' := fun b o _ e t => s b o (ntH_some.mpr ⟨e, t⟩)
theorem rr_but {r : Addr} {H H' : Hp} (s : SameBut r H H') : Rr r H H' := fun b o n e _ => s b o n e
theorem dp_rr {K : PySem.W.Frag} {r : Addr} {H H' : Hp} {v : V} {d : PyData} (s : Rr r H H') (h : Dp K (wo H r) v d) : Dp K (wo H' r) v d := by
  refine dp_same (fun b o e => ?_) (dp_nt h)
  obtain ⟨e1, e2⟩ := ntH_some.mp e
  by_cases n : b = r
  · unfold wo at e1
    rw [if_pos n] at e1
    cases e1
  · rw [wo_ne n] at e1 ⊢
    exact s b o n e1 e2
theorem dpa_rr {K : PySem.W.Frag} {r : Addr} {H H' : Hp} {vs : List V} {ds : List PyData} (s : Rr r H H') (h : DpAll K (wo H r) vs ds) : DpAll K (wo H' r) vs ds := by
  induction ds generalizing vs with
  | nil => cases h; exact .nil
  | cons d ds ih => cases h with | cons a b => exact .cons (dp_rr s a) (ih b)
theorem dp_wo {K : PySem.W.Frag} {r : Addr} {H : Hp} {v : V} {d : PyData} (h : Dp K (wo H r) v d) : Dp K H v d := dp_same wo_sub h
theorem rr_ext {r : Addr} {H H' : Hp} (s : ExtN H H') : Rr r H H' := fun b o _ e t => s b o e t
theorem row_e {K : PySem.W.Frag} {H H' : Hp} {r : Addr} (h : RowAt K H r) (e : ExtN H H') : RowAt K H' r := (rowAt_nt h).but (ntH_keep e)
theorem dp_e {K : PySem.W.Frag} {H H' : Hp} {v : V} {d : PyData} (e : ExtN H H') (h : Dp K H v d) : Dp K H' v d := dp_same (ntH_keep e) (dp_nt h)
theorem lst_e {H H' : Hp} {p : Addr} {xs : List V} (e : ExtN H H') (h : H p = some (.lst xs)) : H' p = some (.lst xs) := e _ _ h fun ps z => by cases z
theorem tup_e {H H' : Hp} {p : Addr} {xs : List V} (e : ExtN H H') (h : H p = some (.tup xs)) : H' p = some (.tup xs) := e _ _ h fun ps z => by cases z
/-! ### lists of data, cut and joined -/
theorem cut_take {xs : List V} {n : Int} (h0 : 0 ≤ n) (h : n ≤ xs.length) : cutV xs none (some n) = xs.take n.toNat := by
  unfold cutV
  have e1 : HT.sIx xs.length 0 none = 0 := rfl
  have e2 : HT.sIx xs.length xs.length (some n) = n.toNat := by
    obtain ⟨k, rfl⟩ := Int.eq_ofNat_of_zero_le h0
    rw [HT.sIx_nat]
    omega
  rw [e1, e2]
  simp
theorem cut_drop {xs : List V} {n : Int} (h0 : 0 ≤ n) (h : n ≤ xs.length) : cutV xs (some n) none = xs.drop n.toNat := by
  unfold cutV
  have e1 : HT.sIx xs.length xs.length none = xs.length := rfl
  have e2 : HT.sIx xs.length 0 (some n) = n.toNat := by
    obtain ⟨k, rfl⟩ := Int.eq_ofNat_of_zero_le h0
    rw [HT.sIx_nat]
    omega
  rw [e1, e2]
  apply List.take_of_length_le
  rw [List.length_drop]
  exact Nat.le_refl _
theorem rep_flat {α : Type} {x : α} : ∀ n : Nat, (List.replicate n [x]).flatten = List.replicate n x
  | 0 => rfl
  | n + 1 => by
    rw [List.replicate_succ, List.flatten_cons, rep_flat n, List.replicate_succ]
    rfl
section
variable {K : PySem.W.Frag} {H : Hp}
theorem dpa_app : ∀ {as bs : List PyData} {vs us : List V}, DpAll K H vs as → DpAll K H us bs → DpAll K H (vs ++ us) (as ++ bs)
  | _, _, _, _, .nil, h => h
  | _, _, _, _, .cons a r, h => .cons a (dpa_app r h)
theorem dpa_take : ∀ (n : Nat) {as : List PyData} {vs : List V}, DpAll K H vs as → DpAll K H (vs.take n) (as.take n)
  | 0, _, _, _ => .nil
  | _ + 1, _, _, .nil => .nil
  | n + 1, _, _, .cons a r => .cons a (dpa_take n r)
theorem dpa_drop : ∀ (n : Nat) {as : List PyData} {vs : List V}, DpAll K H vs as → DpAll K H (vs.drop n) (as.drop n)
  | 0, _, _, h => h
  | _ + 1, _, _, .nil => .nil
  | n + 1, _, _, .cons _ r => dpa_drop n r
theorem dpa_rep {v : V} {d : PyData} (h : Dp K H v d) : ∀ n : Nat, DpAll K H (List.replicate n v) (List.replicate n d)
  | 0 => .nil
  | n + 1 => .cons h (dpa_rep h n)
end
/-! ### asks, of which those at some places are none -/
structure BadIn (d : Disk) (l : List Ask) (ps : List Int) : Prop where
  iff_ : ∀ (i : Nat) (k : Ask), l[i]? = some k → (GoodAsk d k ↔ (i : Int) ∉ ps)
  lt : ∀ p ∈ ps, 0 ≤ p ∧ p < l.length
theorem BadIn.start {d : Disk} {l : List Ask} (h : ∀ k ∈ l, GoodAsk d k) : BadIn d l [] := ⟨fun i k hk => ⟨fun _ z => (by cases z), fun _ => h k (List.mem_of_getElem? hk)⟩, fun p hp => by cases hp⟩
/-- the places moved -/
def movP (at_ : Int) (ps : List Int) : List Int := ps.map fun p => p + (if at_ ≤ p then 1 else 0)
theorem BadIn.step {d : Disk} {l : List Ask} {ps : List Int} (h : BadIn d l ps) {k : Ask} (hk : ¬ GoodAsk d k) {n : Nat} (hn : n ≤ l.length) : BadIn d (l.take n ++ [k] ++ l.drop n) (movP n ps ++ [(n : Int)]) := by
  have hl : (l.take n).length = n := by rw [List.length_take]; omega
  have mem : ∀ (m : Int), 0 ≤ m → ((m < n → (m ∈ movP n ps ++ [(n : Int)] ↔ m ∈ ps)) ∧ (m = n → m ∈ movP n ps ++ [(n : Int)]) ∧ ((n : Int) < m → (m ∈ movP n ps ++ [(n : Int)] ↔ m - 1 ∈ ps))) := fun m h0 => by
    unfold movP
    refine ⟨fun hm => ⟨fun hh => ?_, fun hh => ?_⟩, fun hm => ?_, fun hm => ⟨fun hh => ?_, fun hh => ?_⟩⟩
    · rcases List.mem_append.mp hh with hh | hh
      · obtain ⟨p, hp, e⟩ := List.mem_map.mp hh
        split at e
        · omega
        · have : p = m := by omega
          exact this ▸ hp
      · have := List.mem_singleton.mp hh
        omega
    · exact List.mem_append_left _ (List.mem_map.mpr ⟨m, hh, by rw [if_neg (by omega)]; omega⟩)
    · rw [hm]
      exact List.mem_append_right _ (List.mem_singleton.mpr rfl)
    · rcases List.mem_append.mp hh with hh | hh
      · obtain ⟨p, hp, e⟩ := List.mem_map.mp hh
        split at e
        · have : p = m - 1 := by omega
          exact this ▸ hp
        · omega
      · have := List.mem_singleton.mp hh
        omega
    · exact List.mem_append_left _ (List.mem_map.mpr ⟨m - 1, hh, by rw [if_pos (by omega)]; omega⟩)
  refine ⟨fun i x hx => ?_, fun p hp => ?_⟩
  · obtain ⟨m1, m2, m3⟩ := mem (i : Int) (by omega)
    rcases Nat.lt_trichotomy i n with hi | hi | hi
    · rw [List.append_assoc, List.getElem?_append_left (by omega), List.getElem?_take_of_lt hi] at hx
      rw [h.iff_ i x hx, m1 (by omega)]
    · subst hi
      rw [List.append_assoc, List.getElem?_append_right (by omega), hl, Nat.sub_self] at hx
      cases hx
      exact ⟨fun g => absurd g hk, fun z => absurd (m2 rfl) z⟩
    · rw [List.append_assoc, List.getElem?_append_right (by omega), hl, List.singleton_append] at hx
      obtain ⟨j, rfl⟩ : ∃ j, i = n + 1 + j := ⟨i - n - 1, by omega⟩
      rw [show n + 1 + j - n = j + 1 by omega, List.getElem?_cons_succ, List.getElem?_drop] at hx
      rw [h.iff_ (n + j) x hx, m3 (by omega)]
      have e : (((n + 1 + j : Nat) : Int)) - 1 = ((n + j : Nat) : Int) := by omega
      rw [e]
  · have hlen : ((l.take n ++ [k] ++ l.drop n).length : Int) = l.length + 1 := by
      rw [List.length_append, List.length_append, hl, List.length_drop]
      simp
      omega
    rw [hlen]
    unfold movP at hp
    rcases List.mem_append.mp hp with hp | hp
    · obtain ⟨p0, hp0, e⟩ := List.mem_map.mp hp
      obtain ⟨l1, l2⟩ := h.lt p0 hp0
      split at e <;> omega
    · have := List.mem_singleton.mp hp
      omega
theorem ins_len {l : List Ask} {k : Ask} {n : Nat} (hn : n ≤ l.length) : (l.take n ++ [k] ++ l.drop n).length = l.length + 1 := by
  rw [List.length_append, List.length_append, List.length_take, List.length_drop]
  simp
  omega
/-- the least place is what is told -/
theorem BadIn.out {d : Disk} {l : List Ask} {ps : List Int} (g : GoodDisk d) (h : BadIn d l ps) (hl : l.length ≤ 40) {m : Int} (hm : m ∈ ps) (hle : ∀ p ∈ ps, m ≤ p) (i : Nat) : WOut d l i (some (.ask m)) := by
  obtain ⟨m0, m1⟩ := h.lt m hm
  obtain ⟨k, hk⟩ : ∃ k, l[m.toNat]? = some k := ⟨_, List.getElem?_eq_getElem (by omega)⟩
  refine .inr (.inl ⟨g, m.toNat, k, hk, fun j kj hj hkj => ⟨by omega, (h.iff_ j kj hkj).mpr fun z => ?_⟩, fun hf => ?_, ?_⟩)
  · have := hle _ z
    omega
  · refine (h.iff_ _ k hk).mp hf.2 ?_
    rw [show ((m.toNat : Nat) : Int) = m by omega]
    exact hm
  · rw [show ((m.toNat : Nat) : Int) = m by omega]
theorem zero_good {d : Disk} (g : GoodDisk d) : GoodAsk d (0, 0, 0) := ⟨by decide, by decide, by decide, by have := g.t1; show (0 : Int) < d.tr; omega, by decide, by have := g.s1; show (0 : Int) < d.sc; omega⟩
/-- forty and more -/
theorem many_out {d : Disk} (g : GoodDisk d) {n : Nat} (h : 40 < n) (i : Nat) : WOut d (List.replicate n (0, 0, 0)) i (some (.ask 40)) := by
  refine .inr (.inl ⟨g, 40, (0, 0, 0), by rw [List.getElem?_replicate, if_pos h], fun j kj hj hkj => ?_, fun hf => absurd hf.1 (by decide), rfl⟩)
  rw [List.getElem?_replicate] at hkj
  split at hkj
  · cases hkj
    exact ⟨hj, zero_good g⟩
  · cases hkj
theorem forty_out {d : Disk} (g : GoodDisk d) (i : Nat) : WOut d (List.replicate 40 (0, 0, 0)) i (goodO i) := by
  refine .inr (.inr ⟨g, fun j k hk => ?_, by rw [List.length_replicate]; decide, rfl⟩)
  rw [List.getElem?_replicate] at hk
  split at hk
  · cases hk
    exact ⟨by assumption, zero_good g⟩
  · cases hk
theorem why_some {d : Disk} (h : whyS d ≠ "") : whyD d = some (whyS d) := by
  unfold whyS at h ⊢
  cases e : whyD d with
  | none => rw [e] at h; exact absurd rfl h
  | some y => rfl
theorem refu_good {d : Disk} {l : List Ask} {CD CB : Addr} {H : Hp} {E : XK} {rest : Prop} (g : GoodDisk d) (hf : ∀ (j : Nat) (k : Ask), l[j]? = some k → Fits d j k) (h : rest) : Refu d l CD CB H E rest :=
  ⟨fun y hy => by (rw [whyD_good g] at hy; cases hy), fun _ i k hi _ hn => absurd (hf i k hi) hn, fun _ _ => h⟩
theorem fits_zero {d : Disk} (g : GoodDisk d) {n : Nat} (hn : n ≤ 40) : ∀ (j : Nat) (k : Ask), (List.replicate n ((0, 0, 0) : Ask))[j]? = some k → Fits d j k := fun j k hk => by
  rw [List.getElem?_replicate] at hk
  split at hk
  · cases hk
    exact ⟨by omega, zero_good g⟩
  · cases hk
/-- a list of so many zero asks, made -/
theorem zeros_made {K : PySem.W.Frag} {H : Hp} {σ0 : L2.St} {n : Nat} {k : Int} (hk : k = (n : Int)) (hn : n ≤ 1000) {Q : VK} (q : ∀ (p : Addr) (H' : Hp), Same H H' → Dp K H' (.ref p) (dAsks (List.replicate n (0, 0, 0))) → Q (.ref p) H') :
    tOp rRep (tLst (tCons (tTup (tCons (tC (.int 0)) (tCons (tC (.int 0)) (tCons (tC (.int 0)) tNil)))) tNil)) (tC (.int k)) σ0 H Q := by
  subst hk
  have hsl := sizeLine_eq
  refine ⟨(by show 3 ≤ sizeLine; decide), fun tz htz => ?_⟩
  have s40 := same_new (o := .tup [.int 0, .int 0, .int 0]) htz
  refine ⟨(by show 1 ≤ sizeLine; decide), fun Lz hLz => ?_⟩
  have s41 := s40.trans (same_new (o := .lst [.ref tz]) hLz)
  refine ⟨Lz, (n : Int), [.ref tz], rfl, rfl, upd_same, by omega, by omega, (by show 1 * _ ≤ sizeLine; omega), fun Dz hDz => ?_⟩
  rw [rep_flat, Int.toNat_natCast]
  have s42 := s41.trans (same_new (o := .lst (List.replicate n (V.ref tz))) hDz)
  have etz : upd (upd (upd H tz (.tup [.int 0, .int 0, .int 0])) Lz (.lst [.ref tz])) Dz (.lst (List.replicate n (V.ref tz))) tz = some (.tup [.int 0, .int 0, .int 0]) := (same_new (o := .lst [.ref tz]) hLz).trans (same_new (o := .lst (List.replicate n (V.ref tz))) hDz) _ _ upd_same
  refine q _ _ s42 (.lst (SqL.of upd_same) ?_)
  rw [List.map_replicate]
  exact dpa_rep (dp_tints_of (ns := [0, 0, 0]) (SqT.of etz)) _
/-! ### the words as data -/
def dWord : Option WK → PyData
  | none => .tuple [.str "", .none]
  | some (.ask n) => .tuple [.str "ask", .int n]
  | some (.disk y) => .tuple [.str "disk", .str y]
  | some .order => .tuple [.str "order", .none]
  | some .rule => .tuple [.str "rule", .none]
  | some .many => .tuple [.str "many", .none]
theorem dp_word {K : PySem.W.Frag} {H : Hp} {p : Addr} : ∀ {o : Option WK}, SqT K H p (wordO o) → Dp K H (.ref p) (dWord o)
  | none, h => .tup h (.cons (.str _) (.cons .non .nil))
  | some (.ask n), h => .tup h (.cons (.str _) (.cons (.int _) .nil))
  | some (.disk y), h => .tup h (.cons (.str _) (.cons (.str _) .nil))
  | some .order, h => .tup h (.cons (.str _) (.cons .non .nil))
  | some .rule, h => .tup h (.cons (.str _) (.cons .non .nil))
  | some .many, h => .tup h (.cons (.str _) (.cons .non .nil))
theorem eqv_word : ∀ o : Option WK, PyData.eqv (dWord o) (dWord o) = true
  | none => by simp [dWord, PyData.eqv, PyData.eqvAll]
  | some (.ask n) => by simp [dWord, PyData.eqv, PyData.eqvAll]
  | some (.disk y) => by simp [dWord, PyData.eqv, PyData.eqvAll]
  | some .order => by simp [dWord, PyData.eqv, PyData.eqvAll]
  | some .rule => by simp [dWord, PyData.eqv, PyData.eqvAll]
  | some .many => by simp [dWord, PyData.eqv, PyData.eqvAll]
def okO : Option WK → Prop
  | some (.disk y) => PyData.strOk y = true
  | _ => True
theorem ok_why {d : Disk} {y : Str} (h : whyD d = some y) : PyData.strOk y = true := by
  unfold whyD at h
  split at h
  · cases h
    decide +kernel
  · split at h
    · cases h
      decide +kernel
    · split at h
      · cases h
        decide +kernel
      · split at h
        · cases h
          decide +kernel
        · cases h
theorem shaped_word : ∀ o : Option WK, okO o → SeqAt.shaped (dWord o) = true
  | none, _ => by decide +kernel
  | some (.ask n), _ => by
    have h : PyData.strOk "ask" = true := by decide +kernel
    simp [dWord, SeqAt.shaped, PyData.canLay0, PyData.canLayAll0, PyData.depth, PyData.depthAll, h]
  | some (.disk y), h => by
    have h2 : PyData.strOk "disk" = true := by decide +kernel
    have h : PyData.strOk y = true := h
    simp [dWord, SeqAt.shaped, PyData.canLay0, PyData.canLayAll0, PyData.depth, PyData.depthAll, h, h2]
  | some .order, _ => by decide +kernel
  | some .rule, _ => by decide +kernel
  | some .many, _ => by decide +kernel
/-- a told word against the one that is due: alike -/
theorem ne_word {K : PySem.W.Frag} {H : Hp} {p q : Addr} {o : Option WK} {Q : VK} (ok : okO o) (hp : SqT K H p (wordO o)) (hq : SqT K H q (wordO o)) (h : Q (.bl false) H) : rNeD K (.ref p) (.ref q) H Q :=
  ⟨dWord o, dWord o, dp_word hp, dp_word hq, shaped_word o ok, shaped_word o ok, by rw [eqv_word]; exact h⟩
/-! ### words near the rules' names -/
def five : List Str := [Str.ofString "first", Str.ofString "near", Str.ofString "soon", Str.ofString "sweep", Str.ofString "loop"]
def near5 (x : Str) : List Str := [x ++ Str.ofString "s", x ++ Str.ofString " ", Str.ofString "a" ++ x, cutS x none (some (-1)), cutS x (some 1) none]
theorem five_words : ∀ x ∈ five, x.length ≤ 10 ∧ ∀ y ∈ near5 x, inV (.str y) rulesV = false := by
  have h : (five.all fun x => decide (x.length ≤ 10) && (near5 x).all fun y => !inV (.str y) rulesV) = true := by decide +kernel
  intro x hx
  have h1 := List.all_eq_true.mp h x hx
  rw [Bool.and_eq_true] at h1
  refine ⟨of_decide_eq_true h1.1, fun y hy => ?_⟩
  have h2 := List.all_eq_true.mp h1.2 y hy
  simpa using h2
end Ag

namespace Ag
open PySem PySem.Spec PyProof.Rows L2
/-! ### the law -/
open LamX NdefX
theorem lamD_blk {X : Cx} {T : List (Addr × Str)} {c P : Addr} {params : Arguments} {scope : Scope} (tb : TabB X.base X.mg c P) (code : X.env.code = .ref c) (mem : (P, X.env.qual ++ "<lambda>") ∈ T) (one : ∀ p ∈ T, p.1 = P → p.2 = X.env.qual ++ "<lambda>")
    (dfl : defaultsOf params X.env = ([], [])) (h : ndefB X.env.scope scope [] = true) : LamD X T c P params scope := lamD_by X.env.scope rfl tb code mem one dfl h
/-- the seventh work: read, of the disk that is none -/
theorem own_read {X : Cx} {T : List (Addr × Str)} {c : Cls6} {params : Arguments} {body : Expr} {scope : Scope} {c7 f7 po : Addr} {H : Hp} {σ : L2.St} {d2 : Disk} (hf : H f7 = some (LamO f7 (lamF X params scope c7) params body)) (hc : H c7 = some (CodeO c7 (X.env.qual ++ "<lambda>")))
    (hfree : ∀ y ∈ scope.names, y.2 = .free → X.env.scope.names.lookup y.1 = some .cell ∨ X.env.scope.names.lookup y.1 = some .free) (hfr : ∀ y ∈ ([("_law_other" : Str)] : List Str), (y, NameKind.free) ∈ scope.names) (hN : X.N[4]? = some ("_law_other" : Str)) (S : NScope ["_law_other"] [] ["_law_other"] scope)
    (hb : ∀ (q : Str) (cl : List (Str × Addr)) (pm cv ctv : Value), bindArgs (PySem.W.kla_fn "<lambda>" q params body scope cl pm cv ctv) ⟨[], []⟩ = pure [])
    (hbody : ∀ (q : Str) (cl : List (Str × Addr)) (c' f : Addr) (A : Around) (outer : List Env) (s : Shared) (H : Hp) (E : XK), Room 10 (A.deeper (envF ⟨"<lambda>", q, params, [], scope, cl, c'⟩ f s.heap.objs.size)) →
      PE (ncx (L2.CX X.prog X.w) X.prog X.w X.K X.mg X.base ["_law_other"] ⟨"<lambda>", q, params, [], scope, cl, c'⟩ f A outer s H E) body (tCallS (sp_read_dead c.D X.K) (WE fun cls d _ H => E cls d H) (tCons (tVar 0) (tCons (tC (.str "x")) tNil))))
    (hσ : slotAt σ 4 = some (.ref po)) (hT : Tabs T H) (hd : Dp X.K H (.ref po) (dDisk d2)) (hy : whyD d2 = some (whyS d2)) : WorkAt X (10 + 1) T c σ H f7 (some (.disk (whyS d2))) := by
  refine ⟨_, _, _, hf, runsAt_own (k := 10) (N := ["_law_other"]) (fr := ["_law_other"]) (js := [4]) hf hc (fun ok => Caps.made ok hfree hfr (by simp [hN])) S (fun pm ctv => hb _ _ _ _ _) (fun A3 outer3 s3 hr3 => ⟨_, hbody _ _ _ f7 A3 outer3 s3 H _ hr3, ?_⟩)⟩
  have e : startF ["_law_other"] [] ([4].map (slotAt σ)) = [some (.ref po)] := by
    unfold startF
    rw [show [4].map (slotAt σ) = [slotAt σ 4] from rfl, hσ]
    rfl
  rw [e]
  refine ⟨_, rfl, .ref po, d2, _, rfl, hd, (fun g => by rw [whyD_good g] at hy; cases hy), fun y hy2 e he => ?_⟩
  rw [hy] at hy2
  cases hy2
  exact ⟨.disk (whyS d2), rfl, ⟨rfl, e, rfl, upd_same⟩, (ntH_sub H).trans (same_new he), hT.ext (same_new he)⟩
abbrev s_law : Stmt := top 51
def sp_law (K : PySem.W.Frag) (T : List (Addr × Str)) : Sp := fun vs H Q _ => ∃ (a : Addr) (ns : List Int), vs = [.ref a] ∧ ScrAt K H a ns ∧ Tabs T H ∧ ∀ H', Q (.bl true) H'
theorem sc_law : FnScope ["_law_script", "_law_row", "_law_turn", "_law_disk_here", "_law_other", "_law_asks_here", "_law_bad", "_law_places", "_law_k", "_law_why_here", "_law_works_here", "_law_work", "_law_words", "_law_odds", "_law_others", "_law_rule", "_law_at", "_law_some", "_law_due", "_law_odd", "_law_text", "_law_place"] ["_law_script"] (defScope s_law) := ⟨rfl, rfl, rfl, by decide +kernel, rfl, by decide +kernel, by decide +kernel⟩
section
variable {P : Program} {w : World} {K : PySem.W.Frag} {mg : Str → Option Value} {base : Heap}
set_option maxHeartbeats 32000000 in
theorem ok_law {f fT fD fA fX fY fZ fV fO fR fL fF fH fW fE gW cc Pc : Addr} {fd fdT fdD fdA fdX fdY fdZ fdV fdO fdR fdL fdF fdH fdW fdE : FuncData} {T : List (Addr × Str)} {c : Cls6} (F : FunC K "law" "law" s_law f fd cc) (AT : ArmT base mg T cc Pc "law")
    (G__law_taken : FnOk P w K mg base CX0 1 fT fdT ["_law_row", "_law_many"] (sp_l_taken K)) (C__law_taken : Cal K mg "_law_taken" fT fdT ["_law_row", "_law_many"])
    (G__law_disk : FnOk P w K mg base CX0 2 fD fdD ["_law_row"] (sp_l_disk K)) (C__law_disk : Cal K mg "_law_disk" fD fdD ["_law_row"])
    (G__law_asks : FnOk P w K mg base CX0 2 fA fdA ["_law_row", "_law_disk_here", "_law_most"] (sp_l_asks K)) (C__law_asks : Cal K mg "_law_asks" fA fdA ["_law_row", "_law_disk_here", "_law_most"])
    (G__law_odd_disk : FnOk P w K mg base CX0 2 fX fdX ["_law_row", "_law_disk_here"] (sp_l_odd_disk K)) (C__law_odd_disk : Cal K mg "_law_odd_disk" fX fdX ["_law_row", "_law_disk_here"])
    (G__law_odd_ask : FnOk P w K mg base CX0 2 fY fdY ["_law_row", "_law_disk_here"] (sp_l_odd_ask K)) (C__law_odd_ask : Cal K mg "_law_odd_ask" fY fdY ["_law_row", "_law_disk_here"])
    (G__law_why : FnOk P w K mg base CX0 1 fZ fdZ ["_law_disk_here"] (sp_l_why K)) (C__law_why : Cal K mg "_law_why" fZ fdZ ["_law_disk_here"])
    (G__law_works : FnOk P w K mg base CX0 4 fV fdV ["_law_disk_here", "_law_asks_here"] (sp_l_works K T)) (C__law_works : Cal K mg "_law_works" fV fdV ["_law_disk_here", "_law_asks_here"])
    (G_by_order : FnOk P w K mg base (L2.CX P w) 5 fO fdO ["disk", "asks", "order"] (sp_by_orderX c.D c.B c.O K)) (C_by_order : Cal K mg "by_order" fO fdO ["disk", "asks", "order"])
    (G_by_rule : FnOk P w K mg base (L2.CX P w) 5 fR fdR ["disk", "asks", "rule"] (sp_by_ruleX c.D c.B c.R K)) (C_by_rule : Cal K mg "by_rule" fR fdR ["disk", "asks", "rule"])
    (G_least_sum : FnOk P w K mg base (L2.CX P w) 5 fL fdL ["disk", "asks"] (sp_least_sumX c.D c.B c.M K)) (C_least_sum : Cal K mg "least_sum" fL fdL ["disk", "asks"])
    (G_front : FnOk P w K mg base (L2.CX P w) 5 fF fdF ["disk", "asks"] (sp_frontX c.D c.B c.M K)) (C_front : Cal K mg "front" fF fdF ["disk", "asks"])
    (G_held : FnOk P w K mg base (L2.CX P w) 10 fH fdH ["disk", "asks"] (sp_heldX c.D c.B K T)) (C_held : Cal K mg "held" fH fdH ["disk", "asks"])
    (G_written : FnOk P w K mg base (L2.CX P w) 5 fW fdW ["disk", "asks"] (sp_writtenX c.D c.B K)) (C_written : Cal K mg "written" fW fdW ["disk", "asks"])
    (G_read : FnOk P w K mg base (L2.CX P w) 5 fE fdE ["disk", "text"] (sp_read_dead c.D K)) (C_read : Cal K mg "read" fE fdE ["disk", "text"])
    (W10 : WordOk P w K mg base (10 + 1) gW c) (mW : mg "_law_word" = some (.ref gW)) (kW : PySem.W.keepIn K (.ref gW) = true)
    (mb_range : mg "range" = none) (mb_list : mg "list" = none) (mb_min : mg "min" = none) (mb_int : mg "int" = none) (mb_len : mg "len" = none) : FnOk P w K mg base CX0 13 f fd ["_law_script"] (sp_law K T) := by
  refine F.ok sc_law (fun vs H Q E h => ?_) (fun A outer s H vs Q E hr h => ?_)
  · obtain ⟨a, ns, rfl, _⟩ := h
    rfl
  · obtain ⟨a, ns, rfl, hS, hT0, q⟩ := h
    have nd := sc_law.nd
    have hr__law_taken : Room 1 _ := hr.mono (by decide)
    have hr__law_disk : Room 2 _ := hr.mono (by decide)
    have hr__law_asks : Room 2 _ := hr.mono (by decide)
    have hr__law_odd_disk : Room 2 _ := hr.mono (by decide)
    have hr__law_odd_ask : Room 2 _ := hr.mono (by decide)
    have hr__law_why : Room 1 _ := hr.mono (by decide)
    have hr__law_works : Room 4 _ := hr.mono (by decide)
    have hrW : Room (10 + 1 + 1) _ := hr
    have hsl := sizeLine_eq
    refine ⟨_, (pss_cons (ps_set (i := 1) nd rfl (.inl rfl) (pe_lst (pa_cons (pv 0) (pa_cons pe_int (pa_cons pe_int pa_nil)))))
      (pss_cons (ps_for PassesOwn.never rfl (pi_range1 rfl mb_range (pa_cons pe_int pa_nil)) (pg_name (i := 2) nd rfl (.inl rfl))
        (pss_cons (ps_set (i := 3) nd rfl (.inr rfl) (pe_call G__law_disk hr__law_disk rfl C__law_disk.m C__law_disk.k C__law_disk.b .nil pass0 (pa_cons (pv 1) pa_nil)))
      (pss_cons (ps_set (i := 4) nd rfl (.inr rfl) (pe_call G__law_odd_disk hr__law_odd_disk rfl C__law_odd_disk.m C__law_odd_disk.k C__law_odd_disk.b .nil pass0 (pa_cons (pv 1) (pa_cons (pv 3) pa_nil))))
      (pss_cons (ps_set (i := 5) nd rfl (.inl rfl) (pe_call G__law_asks hr__law_asks rfl C__law_asks.m C__law_asks.k C__law_asks.b .nil pass0 (pa_cons (pv 1) (pa_cons (pv 3) (pa_cons pe_int pa_nil)))))
      (pss_cons (ps_set (i := 6) nd rfl (.inl rfl) (pe_callTy call_list_of (by rfl) mb_list (by decide +kernel) (pa_cons (pv 5) pa_nil)))
      (pss_cons (ps_set (i := 7) nd rfl (.inl rfl) (pe_lst pa_nil))
      (pss_cons (ps_for PassesOwn.never rfl (pi_range1 rfl mb_range (pa_cons (pe_op op_add pe_int (pe_call G__law_taken hr__law_taken rfl C__law_taken.m C__law_taken.k C__law_taken.b .nil pass0 (pa_cons (pv 1) (pa_cons pe_int pa_nil)))) pa_nil)) (pg_name (i := 8) nd rfl (.inl rfl))
        (pss_cons (ps_set (i := 16) nd rfl (.inr rfl) (pe_call G__law_taken hr__law_taken rfl C__law_taken.m C__law_taken.k C__law_taken.b .nil pass0 (pa_cons (pv 1) (pa_cons (pe_op op_add (pe_callB call_len_seq (by rfl) mb_len PySem.boot_len (pa_cons (pv 6) pa_nil)) pe_int) pa_nil))))
      (pss_cons (ps_set (i := 6) nd rfl (.inl rfl) (pe_op op_cat (pe_op op_cat (pe_slice (r := rSlL K) sl_list (pv 6) po_none (po_some (pv 16))) (pe_lst (pa_cons (pe_call G__law_odd_ask hr__law_odd_ask rfl C__law_odd_ask.m C__law_odd_ask.k C__law_odd_ask.b .nil pass0 (pa_cons (pv 1) (pa_cons (pv 3) pa_nil))) pa_nil))) (pe_slice (r := rSlL K) sl_list (pv 6) (po_some (pv 16)) po_none)))
      (pss_one (ps_set (i := 7) nd rfl (.inl rfl) (pe_op op_cat (pe_lc (own := [("_law_place", 21)]) (g := (gName 21)) (tt := tYes) rfl nd (pi_list (pv 7)) (blkOk_by (own := [("_law_place", 21)]) (N := ["_law_script", "_law_row", "_law_turn", "_law_disk_here", "_law_other", "_law_asks_here", "_law_bad", "_law_places", "_law_k", "_law_why_here", "_law_works_here", "_law_work", "_law_words", "_law_odds", "_law_others", "_law_rule", "_law_at", "_law_some", "_law_due", "_law_odd", "_law_text", "_law_place"]) (sc := defScope s_law) (by decide +kernel)) (fun _ _ _ _ _ => (pg_name (i := 21) nd rfl (.inl rfl))) (fun _ _ _ _ _ => pts_nil) (fun _ _ _ _ _ => (pe_op op_add (pv 21) (pe_callTy call_int1 (by rfl) mb_int (by decide +kernel) (pa_cons (pe_cmpR op_ge (pv 21) (pv 16) (nomark _)) pa_nil))))) (pe_lst (pa_cons (pv 16) pa_nil))))))))
      (pss_cons (ps_set (i := 9) nd rfl (.inl rfl) (pe_call G__law_why hr__law_why rfl C__law_why.m C__law_why.k C__law_why.b .nil pass0 (pa_cons (pv 4) pa_nil)))
      (pss_cons (ps_set (i := 10) nd rfl (.inl rfl) (pe_op op_cat (pe_call G__law_works hr__law_works rfl C__law_works.m C__law_works.k C__law_works.b .nil pass0 (pa_cons (pv 4) (pa_cons (pe_op op_cat (pv 6) (pe_op op_rep (pe_lst (pa_cons (pe_tup (pa_cons pe_int (pa_cons pe_int (pa_cons pe_int pa_nil)))) pa_nil)) pe_int)) pa_nil))) (pe_lst (pa_cons (pe_lamT (T := T) (lamD_by (defScope s_law) rfl AT.tb rfl AT.mem AT.one rfl (by decide +kernel))) pa_nil))))
      (pss_cons (ps_for PassesOwn.never rfl (pi_list (pv 10)) (pg_name (i := 11) nd rfl (.inl rfl))
        (pss_one (ps_if (PW.pt (pw_and (pt_cmpR op_ne (pv 9) pe_str (nomark _)) (pw_and1 (pt_cmpR (op_neD hr.units) (pe_wordX (T := T) W10 hrW (by rfl) mW kW (pv 11)) (pe_tup (pa_cons pe_str (pa_cons (pv 9) pa_nil))) (nomark _))))) (pss_one (ps_ret pe_bl)) pss_nil)))
      (pss_cons (ps_for PassesOwn.never rfl (pi_list (pe_lst (pa_cons (pe_tup (pa_cons (pv 6) (pa_cons (pe_callB (cr_min rfl) (by rfl) mb_min (by decide +kernel) (pa_cons (pv 7) pa_nil)) pa_nil))) (pa_cons (pe_tup (pa_cons (pe_op op_rep (pe_lst (pa_cons (pe_tup (pa_cons pe_int (pa_cons pe_int (pa_cons pe_int pa_nil)))) pa_nil)) (pe_op op_add pe_int (pe_call G__law_taken hr__law_taken rfl C__law_taken.m C__law_taken.k C__law_taken.b .nil pass0 (pa_cons (pv 1) (pa_cons pe_int pa_nil))))) (pa_cons pe_int pa_nil))) pa_nil)))) (pg_tup rfl (pgs_cons (pg_name (i := 17) nd rfl (.inl rfl)) (pgs_cons (pg_name (i := 18) nd rfl (.inr rfl)) pgs_nil)))
        (pss_one (ps_if (pt_cmpR (op_neD hr.units) (pe_lc (own := [("_law_work", 11)]) (g := (gName 11)) rfl nd (pi_list (pe_call G__law_works hr__law_works rfl C__law_works.m C__law_works.k C__law_works.b .nil pass0 (pa_cons (pv 3) (pa_cons (pv 17) pa_nil)))) (blkOk_by (own := [("_law_work", 11)]) (N := ["_law_script", "_law_row", "_law_turn", "_law_disk_here", "_law_other", "_law_asks_here", "_law_bad", "_law_places", "_law_k", "_law_why_here", "_law_works_here", "_law_work", "_law_words", "_law_odds", "_law_others", "_law_rule", "_law_at", "_law_some", "_law_due", "_law_odd", "_law_text", "_law_place"]) (sc := defScope s_law) (by decide +kernel)) (fun _ _ _ _ _ => (pg_name (i := 11) nd rfl (.inl rfl))) (fun _ _ _ _ _ => (pts_one (pt_cmpR (r := rNeD K) (op_neD hr.units) (pe_wordC (T := T) W10 hrW (by rfl) mW kW (pv 11)) (pe_tup (pa_cons pe_str (pa_cons (pv 18) pa_nil))) (nomark _)))) (fun _ _ _ _ _ => (pv 11))) (pe_lst pa_nil) (nomark _)) (pss_one (ps_ret pe_bl)) pss_nil)))
      (pss_cons (ps_setLc (i := 12) (own := [("_law_work", 11)]) (g := (gName 11)) (tt := tYes) rfl nd rfl rfl (sw_true rfl rfl rfl (by decide +kernel)) (pi_list (pe_call G__law_works hr__law_works rfl C__law_works.m C__law_works.k C__law_works.b .nil pass0 (pa_cons (pv 3) (pa_cons (pe_op op_rep (pe_lst (pa_cons (pe_tup (pa_cons pe_int (pa_cons pe_int (pa_cons pe_int pa_nil)))) pa_nil)) pe_int) pa_nil)))) (blkOk_by (own := [("_law_work", 11)]) (N := ["_law_script", "_law_row", "_law_turn", "_law_disk_here", "_law_other", "_law_asks_here", "_law_bad", "_law_places", "_law_k", "_law_why_here", "_law_works_here", "_law_work", "_law_words", "_law_odds", "_law_others", "_law_rule", "_law_at", "_law_some", "_law_due", "_law_odd", "_law_text", "_law_place"]) (sc := defScope s_law) (by decide +kernel)) (fun _ _ _ _ _ => (pg_name (i := 11) nd rfl (.inl rfl))) (fun _ _ _ _ _ => pts_nil) (fun _ _ _ _ _ => (pe_wordC (T := T) W10 hrW (by rfl) mW kW (pv 11))))
      (pss_cons (ps_if (pt_cmpR (op_neD hr.units) (pv 12) (pe_lst (pa_cons (pe_tup (pa_cons pe_str (pa_cons pe_non pa_nil))) (pa_cons (pe_tup (pa_cons pe_str (pa_cons pe_non pa_nil))) (pa_cons (pe_tup (pa_cons pe_str (pa_cons pe_non pa_nil))) (pa_cons (pe_tup (pa_cons pe_str (pa_cons pe_non pa_nil))) (pa_cons (pe_tup (pa_cons pe_str (pa_cons pe_non pa_nil))) (pa_cons (pe_tup (pa_cons pe_str (pa_cons pe_non pa_nil))) pa_nil))))))) (nomark _)) (pss_one (ps_ret pe_bl)) pss_nil)
      (pss_cons (ps_if (pt_cmpR (op_neD hr.units) (pe_wordL (T := T) (N := ["_law_disk_here"]) (fr := ["_law_disk_here"]) (js := [3]) W10 hrW (lamD_by (defScope s_law) rfl AT.tb rfl AT.mem AT.one rfl (by decide +kernel)) (nscope_by (by show nscB _ _ _ (Scope.mk .function [("_law_disk_here", .free), ("front", .globalImplicit)] false false []) = true; decide +kernel)) rfl (by decide +kernel) (fun q cl c' fl A3 outer3 s3 H3 E3 hr3 => (pe_callS G_front (hr3.mono (by decide)) (by rfl) C_front.m C_front.k C_front.b (fun σ => passAt (takes_of rfl rfl rfl rfl) σ) (pa_cons (pv 0) (pa_cons (pe_op op_rep (pe_lst (pa_cons (pe_tup (pa_cons pe_int (pa_cons pe_int (pa_cons pe_int pa_nil)))) pa_nil)) pe_int) pa_nil)))) (by rfl) mW kW) (pe_tup (pa_cons pe_str (pa_cons pe_non pa_nil))) (nomark _)) (pss_one (ps_ret pe_bl)) pss_nil)
      (pss_cons (ps_set (i := 13) nd rfl (.inl rfl) (pe_lst (pa_cons (pe_lst (pa_cons pe_int (pa_cons pe_int pa_nil))) (pa_cons (pe_lst (pa_cons pe_int pa_nil)) (pa_cons (pe_lst (pa_cons pe_int (pa_cons pe_int (pa_cons pe_int pa_nil)))) (pa_cons (pe_lst pa_nil) (pa_cons (pe_lst (pa_cons (pe_op op_sub pe_int pe_int) (pa_cons pe_int pa_nil))) (pa_cons (pe_lst (pa_cons pe_int (pa_cons pe_int pa_nil))) (pa_cons (pe_lst (pa_cons pe_int (pa_cons pe_int (pa_cons pe_int pa_nil)))) pa_nil)))))))))
      (pss_cons (ps_if (pt_cmpR (op_neD hr.units) (pe_lc (own := [("_law_odd", 19)]) (g := (gName 19)) rfl nd (pi_list (pv 13)) (blkOk_by (own := [("_law_odd", 19)]) (N := ["_law_script", "_law_row", "_law_turn", "_law_disk_here", "_law_other", "_law_asks_here", "_law_bad", "_law_places", "_law_k", "_law_why_here", "_law_works_here", "_law_work", "_law_words", "_law_odds", "_law_others", "_law_rule", "_law_at", "_law_some", "_law_due", "_law_odd", "_law_text", "_law_place"]) (sc := defScope s_law) (by decide +kernel)) (fun _ _ _ _ _ => (pg_name (i := 19) nd rfl (.inr rfl))) (fun _ _ _ _ _ => (pts_one (pt_cmpR (r := rNeD K) (op_neD hr.units) (pe_wordL (T := T) (N := ["_law_disk_here", "_law_odd"]) (fr := ["_law_disk_here", "_law_odd"]) (js := [3, 19]) W10 hrW (lamD_blk AT.tb rfl AT.mem AT.one rfl (by kernel_rfl)) (nscope_by (by show nscB _ _ _ (Scope.mk .function [("_law_disk_here", .free), ("_law_odd", .free), ("by_order", .globalImplicit)] false false []) = true; decide +kernel)) rfl (by decide +kernel) (fun q cl c' fl A3 outer3 s3 H3 E3 hr3 => (pe_callS G_by_order (hr3.mono (by decide)) (by rfl) C_by_order.m C_by_order.k C_by_order.b (fun σ => passAt (takes_of rfl rfl rfl rfl) σ) (pa_cons (pv 0) (pa_cons (pe_op op_rep (pe_lst (pa_cons (pe_tup (pa_cons pe_int (pa_cons pe_int (pa_cons pe_int pa_nil)))) pa_nil)) pe_int) (pa_cons (pv 1) pa_nil))))) (by rfl) mW kW) (pe_tup (pa_cons pe_str (pa_cons pe_non pa_nil))) (nomark _)))) (fun _ _ _ _ _ => (pv 19))) (pe_lst pa_nil) (nomark _)) (pss_one (ps_ret pe_bl)) pss_nil)
      (pss_cons (ps_set (i := 14) nd rfl (.inl rfl) (pe_lst (pa_cons pe_str (pa_cons pe_str (pa_cons pe_str (pa_cons pe_str (pa_cons pe_str (pa_cons pe_str (pa_cons (pe_ix (r := rIxL K) ix_list (pe_lst (pa_cons pe_str (pa_cons pe_str pa_nil))) (pe_call G__law_taken hr__law_taken rfl C__law_taken.m C__law_taken.k C__law_taken.b .nil pass0 (pa_cons (pv 1) (pa_cons pe_int pa_nil))) (fun _ _ => rfl)) pa_nil)))))))))
      (pss_cons (ps_for PassesOwn.never rfl (pi_list (pe_lst (pa_cons pe_str (pa_cons pe_str (pa_cons pe_str (pa_cons pe_str (pa_cons pe_str pa_nil))))))) (pg_name (i := 15) nd rfl (.inl rfl))
        (pss_one (ps_set (i := 14) nd rfl (.inl rfl) (pe_op op_cat (pv 14) (pe_lst (pa_cons (pe_op op_add_str (pv 15) pe_str) (pa_cons (pe_op op_add_str (pv 15) pe_str) (pa_cons (pe_op op_add_str pe_str (pv 15)) (pa_cons (pe_slice sl_str (pv 15) po_none (po_some (pe_un un_neg pe_int))) (pa_cons (pe_slice sl_str (pv 15) (po_some pe_int) po_none) pa_nil))))))))))
      (pss_one (ps_if (pt_cmpR (op_neD hr.units) (pe_lc (own := [("_law_text", 20)]) (g := (gName 20)) rfl nd (pi_list (pv 14)) (blkOk_by (own := [("_law_text", 20)]) (N := ["_law_script", "_law_row", "_law_turn", "_law_disk_here", "_law_other", "_law_asks_here", "_law_bad", "_law_places", "_law_k", "_law_why_here", "_law_works_here", "_law_work", "_law_words", "_law_odds", "_law_others", "_law_rule", "_law_at", "_law_some", "_law_due", "_law_odd", "_law_text", "_law_place"]) (sc := defScope s_law) (by decide +kernel)) (fun _ _ _ _ _ => (pg_name (i := 20) nd rfl (.inr rfl))) (fun _ _ _ _ _ => (pts_one (pt_cmpR (r := rNeD K) (op_neD hr.units) (pe_wordL (T := T) (N := ["_law_disk_here", "_law_text"]) (fr := ["_law_disk_here", "_law_text"]) (js := [3, 20]) W10 hrW (lamD_blk AT.tb rfl AT.mem AT.one rfl (by kernel_rfl)) (nscope_by (by show nscB _ _ _ (Scope.mk .function [("_law_disk_here", .free), ("_law_text", .free), ("by_rule", .globalImplicit)] false false []) = true; decide +kernel)) rfl (by decide +kernel) (fun q cl c' fl A3 outer3 s3 H3 E3 hr3 => (pe_callS G_by_rule (hr3.mono (by decide)) (by rfl) C_by_rule.m C_by_rule.k C_by_rule.b (fun σ => passAt (takes_of rfl rfl rfl rfl) σ) (pa_cons (pv 0) (pa_cons (pe_lst pa_nil) (pa_cons (pv 1) pa_nil))))) (by rfl) mW kW) (pe_tup (pa_cons pe_str (pa_cons pe_non pa_nil))) (nomark _)))) (fun _ _ _ _ _ => (pv 20))) (pe_lst pa_nil) (nomark _)) (pss_one (ps_ret pe_bl)) pss_nil))))))))))))))))))))
      (pss_one (ps_ret pe_bl)))), ?_⟩
    refine ⟨_, rfl, (by show 3 ≤ sizeLine; decide), fun r hr0 => ?_⟩
    have hR0 := row_start hS hr0
    have hT1 : Tabs T _ := hT0.ext (same_new (o := .lst [.ref a, .int 0, .int 0]) hr0)
    refine ⟨4, rfl, by decide, by decide, ?_⟩
    refine for_range (lo := 0) (n := 4) (fun i σ H' => RowAt K H' r ∧ Tabs T H' ∧ ∃ v2 v3 v4 v5 v6 v7 v8 v9 v10 v11 v12 v13 v14 v15 v16 v17 v18 v19 v20 v21 : Option V, σ = [some (.ref a), some (.ref r), v2, v3, v4, v5, v6, v7, v8, v9, v10, v11, v12, v13, v14, v15, v16, v17, v18, v19, v20, v21])
      ⟨hR0, hT1, none, none, none, none, none, none, none, none, none, none, none, none, none, none, none, none, none, none, none, none, rfl⟩ ?_ ?_
    · rintro i0 σ H0 hi ⟨hR, hT, v2, v3, v4, v5, v6, v7, v8, v9, v10, v11, v12, v13, v14, v15, v16, v17, v18, v19, v20, v21, rfl⟩
      refine ⟨_, rfl, r, rfl, hR, fun H1 pd d g hR1 sb1 npd ed => ?_⟩
      have hTa := tabs_row hT hR sb1
      have dpd1 : Dp K (wo H1 r) (.ref pd) (dDisk d) := dp_tints_of (.inl (.inl (by rw [wo_ne npd]; exact ed)))
      refine ⟨_, rfl, _, rfl, r, .ref pd, d, rfl, hR1, dpd1, fun H2 po d2 hR2 sb2 npo eo => ?_⟩
      have hTb := tabs_row hTa hR1 sb2
      have dpd2 := dp_rr (rr_but sb2) dpd1
      have dpo2 : Dp K (wo H2 r) (.ref po) (dDisk d2) := dp_tints_of (.inl (.inl (by rw [wo_ne npo]; exact eo)))
      refine ⟨_, rfl, _, rfl, r, .ref pd, d, 12, rfl, hR2, dpd2, g, by decide, by decide, fun H3 pa l xs ga hl hR3 sb3 npa hpa0 epa hda => ?_⟩
      have hTc := tabs_row hTb hR2 sb3
      have dpd3 := dp_rr (rr_but sb3) dpd2
      have dpo3 := dp_rr (rr_but sb3) dpo2
      refine ⟨_, rfl, pa, xs, rfl, .inl (SqL.of epa), fun pb0 hpb0 => ?_⟩
      have s4 := same_new (o := .lst xs) hpb0
      have npb0 := hR3.ne hpb0
      refine ⟨Nat.zero_le _, fun pp0 hpp0 => ?_⟩
      have s5 := same_new (o := .lst []) hpp0
      have npp0 : pp0 ≠ r := (hR3.but s4).ne hpp0
      have s45 := s4.trans s5
      have eb0 : upd (upd H3 pb0 (.lst xs)) pp0 (.lst []) pb0 = some (.lst xs) := s5 _ _ upd_same
      have ep0 : upd (upd H3 pb0 (.lst xs)) pp0 (.lst []) pp0 = some (.lst []) := upd_same
      have hR5 := hR3.but s45
      have hT5 := hTc.ext s45
      have dpd5 := dp_rr (rr_same s45) dpd3
      have dpo5 := dp_rr (rr_same s45) dpo3
      have dpb5 : DpAll K (wo (upd (upd H3 pb0 (.lst xs)) pp0 (.lst [])) r) xs (l.map dAsk) := (dpa_same (wo_sub.trans fun b o e => by
        have nb : b ≠ r := fun z => by rw [z] at e; unfold wo at e; rw [if_pos rfl] at e; cases e
        rw [wo_ne nb] at e ⊢
        exact s45 _ _ e) hda)
      revert eb0 ep0 hR5 hT5 dpd5 dpo5 dpb5
      generalize upd (upd H3 pb0 (.lst xs)) pp0 (.lst []) = H5
      intro eb0 ep0 hR5 hT5 dpd5 dpo5 dpb5
      refine ⟨_, rfl, r, 2, rfl, hR5, by decide, fun H6 n n0 n2 hR6 sb6 => ?_⟩
      have hT6 := tabs_row hT5 hR5 sb6
      refine ⟨_, _, rfl, rfl, 1 + n, rfl, by omega, by omega, ?_⟩
      refine for_range (lo := 0) (n := (1 + n).toNat) (fun k σ H' => RowAt K H' r ∧ Tabs T H' ∧ Dp K (wo H' r) (.ref pd) (dDisk d) ∧ Dp K (wo H' r) (.ref po) (dDisk d2) ∧ ∃ (lb : List Ask) (ps : List Int) (xb : List V) (pb pp : Addr) (v8 v16 v21 : Option V),
          σ = [some (.ref a), some (.ref r), some (.int (0 + (i0 : Int))), some (.ref pd), some (.ref po), some (.ref pa), some (.ref pb), some (.ref pp), v8, v9, v10, v11, v12, v13, v14, v15, v16, v17, v18, v19, v20, v21] ∧ pb ≠ r ∧ H' pb = some (.lst xb) ∧ DpAll K (wo H' r) xb (lb.map dAsk) ∧
          pp ≠ r ∧ H' pp = some (.lst (ps.map V.int)) ∧ BadIn d lb ps ∧ lb.length ≤ 12 + k ∧ ps.length = k) ⟨hR6, hT6, dp_rr (rr_but sb6) dpd5, dp_rr (rr_but sb6) dpo5, l, [], xs, pb0, pp0, v8, v16, v21, rfl, npb0, sb6 _ _ npb0 eb0, ?_, npp0, sb6 _ _ npp0 ep0, BadIn.start ga.all, by omega, rfl⟩ ?_ ?_
      · exact dpa_rr (rr_but sb6) dpb5
      · rintro k σ H7 hk ⟨hR7, hT7, dpd7, dpo7, lb, ps, xb, pb, pp, v8, v16, v21, rfl, npb, eb, hxb, npp, ep, hB, hlb, hps⟩
        have hxl : xb.length = lb.length := by
          have := dpa_len hxb
          rw [List.length_map] at this
          exact this
        refine ⟨_, rfl, _, rfl, pb, xb, rfl, .inl (SqL.of eb), _, _, rfl, rfl, r, _, rfl, hR7, by omega, fun H8 at_ a0 a1 hR8 sb8 => ?_⟩
        have hT8 := tabs_row hT7 hR7 sb8
        have hat : at_ ≤ (xb.length : Int) := by omega
        refine ⟨_, rfl, _, rfl, at_, rfl, pb, xb, rfl, SqL.of (sb8 _ _ npb eb), fun p1 hp1 => ?_⟩
        rw [cut_take a0 hat]
        have s9 := same_new (o := .lst (xb.take at_.toNat)) hp1
        have np1 := hR8.ne hp1
        have rr9 := (rr_but sb8).trans (rr_same (r := r) s9)
        refine ⟨_, rfl, _, rfl, r, .ref pd, d, rfl, hR8.but s9, dp_rr rr9 dpd7, fun H10 pk kk hkk hR10 sb10 npk ek => ?_⟩
        have hT10 := tabs_row (hT8.ext s9) (hR8.but s9) sb10
        have rr10 := rr9.trans (rr_but sb10)
        have e1 : H10 p1 = some (.lst (xb.take at_.toNat)) := sb10 _ _ np1 upd_same
        refine ⟨(by show 1 ≤ sizeLine; decide), fun L hL => ?_⟩
        have s11 := same_new (o := .lst [.ref pk]) hL
        refine ⟨p1, L, _, _, rfl, rfl, s11 _ _ e1, upd_same, (by rw [List.length_take]; show _ + 1 ≤ sizeLine; omega), fun p2 hp2 => ?_⟩
        have s12 := s11.trans (same_new (o := .lst (xb.take at_.toNat ++ [.ref pk])) hp2)
        refine ⟨_, rfl, _, rfl, at_, rfl, pb, xb, rfl, SqL.of (s12 _ _ (sb10 _ _ npb (s9 _ _ (sb8 _ _ npb eb)))), fun p3 hp3 => ?_⟩
        rw [cut_drop a0 hat]
        have s3 := same_new (o := .lst (xb.drop at_.toNat)) hp3
        have s13 := s12.trans s3
        refine ⟨p2, p3, _, _, rfl, rfl, s3 _ _ upd_same, upd_same, (by rw [List.length_append, List.length_take, List.length_drop]; show _ + 1 + _ ≤ sizeLine; omega), fun p4 hp4 => ?_⟩
        have s14 := s13.trans (same_new (o := .lst (xb.take at_.toNat ++ [.ref pk] ++ xb.drop at_.toNat)) hp4)
        have np4 : p4 ≠ r := (hR10.but s13).ne hp4
        have e4 := upd_same (H := upd (upd (upd H10 L (.lst [.ref pk])) p2 (.lst (xb.take at_.toNat ++ [.ref pk]))) p3 (.lst (xb.drop at_.toNat))) (a := p4) (o := HO.lst (xb.take at_.toNat ++ [.ref pk] ++ xb.drop at_.toNat))
        revert s14 e4
        generalize upd (upd (upd (upd H10 L (.lst [.ref pk])) p2 (.lst (xb.take at_.toNat ++ [.ref pk]))) p3 (.lst (xb.drop at_.toNat))) p4 (.lst (xb.take at_.toNat ++ [.ref pk] ++ xb.drop at_.toNat)) = H14
        intro s14 e4
        show gName 6 (V.ref p4) [some (.ref a), some (.ref r), some (.int (0 + (i0 : Int))), some (.ref pd), some (.ref po), some (.ref pa), some (.ref pb), some (.ref pp), some (.int (0 + (k : Int))), v9, v10, v11, v12, v13, v14, v15, some (.int at_), v17, v18, v19, v20, v21] H14 _
        have rr14 := rr10.trans (rr_same (r := r) s14)
        have hR14 := hR10.but s14
        have hT14 := hT10.ext s14
        have ep14 : H14 pp = some (.lst (ps.map V.int)) := rr14 _ _ npp ep (fun ps z => by cases z)
        have ek14 := s14 _ _ ek
        refine ⟨_, rfl, pp, rfl, ⟨_, SqL.of ep14⟩, fun D hD => ?_⟩
        have nD : D ≠ r := hR14.ne hD
        have s15 := same_new (o := .lst []) hD
        refine lc_list (K := K) (a := pp) (xs := ps.map V.int) (fun j H' => Same H14 H' ∧ H' D = some (.lst ((movP at_ (ps.take j)).map V.int))) ⟨s15, upd_same⟩ (fun j H' _ ⟨s, _⟩ => SqL.of (s _ _ ep14)) ?_ ?_
        · rintro j x H' hj ⟨s16, eD⟩
          obtain ⟨p, hp, rfl⟩ : ∃ p, ps[j]? = some p ∧ x = .int p := by
            rw [List.getElem?_map] at hj
            cases e : ps[j]? with
            | none => rw [e] at hj; cases hj
            | some p => rw [e] at hj; exact ⟨p, rfl, (Option.some.inj hj).symm⟩
          refine ⟨rfl, _, rfl, _, rfl, _, rfl, _, _, rfl, rfl, .inr ⟨_, rfl, _, _, rfl, rfl, _, eD, ?_, same_upd s16 hD, ?_⟩⟩
          · rw [List.length_map, movP, List.length_map, List.length_take]
            exact small1000 (by omega)
          · rw [upd_same, take_more hp]
            unfold movP
            rw [List.map_append, List.map_append]
            have e : (if decide (at_ ≤ p) = true then (1 : Int) else 0) = if at_ ≤ p then 1 else 0 := by
              by_cases z : at_ ≤ p
              · rw [decide_eq_true z, if_pos z]; rfl
              · rw [decide_eq_false z, if_neg z]; rfl
            rw [e]
            rfl
        · rintro H16 ⟨s16, eD⟩
          rw [List.take_of_length_le (by rw [List.length_map]; exact Nat.le_refl _)] at eD
          refine ⟨_, rfl, (by show 1 ≤ sizeLine; decide), fun L2 hL2 => ?_⟩
          have s17 := same_new (o := .lst [.int at_]) hL2
          refine ⟨D, L2, _, _, rfl, rfl, s17 _ _ eD, upd_same, (by rw [List.length_map, movP, List.length_map]; show _ + 1 ≤ sizeLine; omega), fun p5 hp5 => ?_⟩
          have s18 := s16.trans (s17.trans (same_new (o := .lst ((movP at_ ps).map V.int ++ [.int at_])) hp5))
          have np5 : p5 ≠ r := (hR14.but (s16.trans s17)).ne hp5
          have rr18 := rr14.trans (rr_same (r := r) s18)
          have hn : at_.toNat ≤ lb.length := by omega
          have eat : ((at_.toNat : Nat) : Int) = at_ := by omega
          refine ⟨hR14.but s18, hT14.ext s18, dp_rr rr18 dpd7, dp_rr rr18 dpo7, lb.take at_.toNat ++ [kk] ++ lb.drop at_.toNat, movP at_ ps ++ [at_], _, p4, p5, _, _, _, rfl, np4, s18 _ _ e4, ?_, np5, ?_, ?_, ?_, ?_⟩
          · rw [List.map_append, List.map_append, List.map_take, List.map_drop]
            have hx := dpa_rr rr18 hxb
            exact dpa_app (dpa_app (dpa_take _ hx) (.cons (dp_tints_of (ns := [kk.1, kk.2.1, kk.2.2]) (.inl (.inl (by rw [wo_ne npk]; exact s18 _ _ ek14)))) .nil)) (dpa_drop _ hx)
          · rw [upd_same, List.map_append]
            rfl
          · have := hB.step hkk hn
            rw [eat] at this
            exact this
          · rw [ins_len hn]
            omega
          · rw [List.length_append, movP, List.length_map, hps]
            rfl
      · rintro σ H7 ⟨hR7, hT7, dpd7, dpo7, lb, ps, xb, pb, pp, v8, v16, v21, rfl, npb, eb, hxb, npp, ep, hB, hlb, hps⟩
        have hps1 : ps ≠ [] := by
          rintro rfl
          have : (0 : Nat) = (1 + n).toNat := hps
          omega
        have hlb14 : lb.length ≤ 14 := by omega
        clear hlb hps
        refine ⟨_, rfl, .ref po, d2, rfl, dp_wo dpo7, fun H8 s8 => ?_⟩
        show gName 9 (V.str (whyS d2)) [some (.ref a), some (.ref r), some (.int (0 + (i0 : Int))), some (.ref pd), some (.ref po), some (.ref pa), some (.ref pb), some (.ref pp), v8, v9, v10, v11, v12, v13, v14, v15, v16, v17, v18, v19, v20, v21] H8 _
        refine ⟨_, rfl, _, rfl, (by show 3 ≤ sizeLine; decide), fun t ht => ?_⟩
        have s9 := same_new (o := .tup [.int 0, .int 0, .int 99]) ht
        refine ⟨(by show 1 ≤ sizeLine; decide), fun L hL => ?_⟩
        have s10 := same_new (o := .lst [.ref t]) hL
        refine ⟨L, 9, [.ref t], rfl, rfl, upd_same, by decide, by decide, (by show 1 * 9 ≤ sizeLine; decide), fun D hD => ?_⟩
        rw [rep_flat, show (9 : Int).toNat = 9 from rfl]
        have s11 := same_new (o := .lst (List.replicate 9 (V.ref t))) hD
        have s911 := s8.trans (s9.trans (s10.trans s11))
        refine ⟨pb, D, xb, _, rfl, rfl, s911 _ _ eb, upd_same, (by rw [List.length_replicate]; have := dpa_len hxb; rw [List.length_map] at this; omega), fun pq hpq => ?_⟩
        have s12 := s911.trans (same_new (o := .lst (xb ++ List.replicate 9 (V.ref t))) hpq)
        have dpq : Dp K (upd (upd (upd (upd H8 t (.tup [.int 0, .int 0, .int 99])) L (.lst [.ref t])) D (.lst (List.replicate 9 (V.ref t)))) pq (.lst (xb ++ List.replicate 9 (V.ref t)))) (.ref pq) (dAsks (lb ++ List.replicate 9 (0, 0, 99))) := by
          refine .lst (SqL.of upd_same) ?_
          rw [List.map_append, List.map_replicate]
          refine dpa_app (dpa_same (wo_sub.trans s12) hxb) (dpa_rep (dp_tints_of (ns := [0, 0, 99]) (SqT.of ?_)) 9)
          have n1 : H8 t = none := ht
          exact (s10.trans (s11.trans (same_new (o := .lst (xb ++ List.replicate 9 (V.ref t))) hpq))) _ _ upd_same
        revert s12 dpq
        generalize upd (upd (upd (upd H8 t (.tup [.int 0, .int 0, .int 99])) L (.lst [.ref t])) D (.lst (List.replicate 9 (V.ref t)))) pq (.lst (xb ++ List.replicate 9 (V.ref t))) = Hq
        intro s12 dpq
        refine ⟨.ref po, .ref pq, rfl, hT7.ext s12, fun H9 pf fs s13 hT9 hfs epf hwk => ?_⟩
        refine ⟨hT9, fun f7 c7 H10 e10 n10 T10 f70 h7 k7 => ⟨(by show 1 ≤ sizeLine; decide), fun L7 hL7 => ?_⟩⟩
        have s14 := same_new (o := .lst [.ref f7]) hL7
        refine ⟨pf, L7, _, _, rfl, rfl, s14 _ _ (lst_e e10 epf), upd_same, (by rw [List.length_map, hfs]; show 6 + 1 ≤ sizeLine; decide), fun pw hpw => ?_⟩
        have s15 := s14.trans (same_new (o := .lst (fs.map V.ref ++ [.ref f7])) hpw)
        have ew := upd_same (H := upd H10 L7 (.lst [.ref f7])) (a := pw) (o := HO.lst (fs.map V.ref ++ [.ref f7]))
        have eA : ExtN Hq (upd (upd H10 L7 (.lst [.ref f7])) pw (.lst (fs.map V.ref ++ [.ref f7]))) := ((ext_of s13).trans e10).trans (.of s15)
        have eB : ExtN H9 (upd (upd H10 L7 (.lst [.ref f7])) pw (.lst (fs.map V.ref ++ [.ref f7]))) := e10.trans (.of s15)
        have Tw := T10.ext s15
        have h7w := s15 _ _ h7
        have k7w := s15 _ _ k7
        revert ew eA eB Tw h7w k7w
        generalize upd (upd H10 L7 (.lst [.ref f7])) pw (.lst (fs.map V.ref ++ [.ref f7])) = Hw
        intro ew eA eB Tw h7w k7w
        have e7w : ExtN H7 Hw := (ExtN.of s12).trans eA
        have hRw := row_e hR7 e7w
        have dpdw := dp_rr (rr_ext (r := r) e7w) dpd7
        have dpow := dp_rr (rr_ext (r := r) e7w) dpo7
        have hxbw := dpa_rr (rr_ext (r := r) e7w) hxb
        have ebw := lst_e e7w eb
        have epw := lst_e e7w ep
        have dpqw := dp_e eA dpq
        show gName 10 (V.ref pw) [some (.ref a), some (.ref r), some (.int (0 + (i0 : Int))), some (.ref pd), some (.ref po), some (.ref pa), some (.ref pb), some (.ref pp), v8, some (.str (whyS d2)), v10, v11, v12, v13, v14, v15, v16, v17, v18, v19, v20, v21] Hw _
        refine ⟨_, rfl, pw, rfl, ⟨_, SqL.of ew⟩, ?_⟩
        refine for_list (K := K) (a := pw) (xs := fs.map V.ref ++ [V.ref f7]) (fun j σ H' => ExtN Hw H' ∧ Tabs T H' ∧ ∃ v11 : Option V, σ = [some (.ref a), some (.ref r), some (.int (0 + (i0 : Int))), some (.ref pd), some (.ref po), some (.ref pa), some (.ref pb), some (.ref pp), v8, some (.str (whyS d2)), some (.ref pw), v11, v12, v13, v14, v15, v16, v17, v18, v19, v20, v21])
          ⟨ExtN.refl Hw, Tw, v11, rfl⟩ (fun j σ H' _ ⟨e, _, _, _⟩ => SqL.of (lst_e e ew)) ?_ ?_
        · rintro j x σ Hj hx ⟨ej, tj, v11, rfl⟩
          refine ⟨_, rfl, rfl, _, rfl, ?_⟩
          refine if2nd (fun _ => ?_) (fun hne => ?_)
          · exact iteF ⟨ej, tj, _, rfl⟩
          · have hy := why_some (fun z => hne (congrArg V.str z))
            have hng : ¬ GoodDisk d2 := fun g => by
              rw [whyD_good g] at hy
              cases hy
            have hpo := dp_e ej (dp_wo dpow)
            obtain ⟨fx, rfl, hw⟩ : ∃ fx, x = .ref fx ∧ WorkAt (cxOf CX0 P w K mg base ["_law_script", "_law_row", "_law_turn", "_law_disk_here", "_law_other", "_law_asks_here", "_law_bad", "_law_places", "_law_k", "_law_why_here", "_law_works_here", "_law_work", "_law_words", "_law_odds", "_law_others", "_law_rule", "_law_at", "_law_some", "_law_due", "_law_odd", "_law_text", "_law_place"] "law" (defScope s_law) f (.ref cc) A outer s H E).nox (10 + 1) T c ([some (.ref a), some (.ref r), some (.int (0 + (i0 : Int))), some (.ref pd), some (.ref po), some (.ref pa), some (.ref pb), some (.ref pp), v8, some (.str (whyS d2)), some (.ref pw), some (.ref fx), v12, v13, v14, v15, v16, v17, v18, v19, v20, v21]) Hj fx (some (.disk (whyS d2))) := by
              rcases Nat.lt_or_ge j 6 with h6 | h6
              · rw [List.getElem?_append_left (by rw [List.length_map]; omega), List.getElem?_map] at hx
                cases ef : fs[j]? with
                | none => rw [ef] at hx; cases hx
                | some fx =>
                  rw [ef] at hx
                  refine ⟨fx, (Option.some.inj hx).symm, ThkAt.work ?_⟩
                  exact wk_run G_by_order C_by_order G_by_rule C_by_rule G_least_sum C_least_sum G_front C_front G_held C_held G_written C_written ((hwk j fx ef).ext (eB.trans ej)) h6 tj hpo (dp_e ej dpqw) (by rw [List.length_append, List.length_replicate]; omega) (.inl ⟨_, hy, rfl⟩)
              · rw [List.getElem?_append_right (by rw [List.length_map]; omega), List.length_map, hfs] at hx
                have ej6 : j = 6 := by
                  rcases Nat.lt_or_ge (j - 6) 1 with h | h
                  · omega
                  · rw [List.getElem?_eq_none (by simpa using h)] at hx
                    cases hx
                subst ej6
                refine ⟨f7, (Option.some.inj hx).symm, own_read (X := (cxOf CX0 P w K mg base ["_law_script", "_law_row", "_law_turn", "_law_disk_here", "_law_other", "_law_asks_here", "_law_bad", "_law_places", "_law_k", "_law_why_here", "_law_works_here", "_law_work", "_law_words", "_law_odds", "_law_others", "_law_rule", "_law_at", "_law_some", "_law_due", "_law_odd", "_law_text", "_law_place"] "law" (defScope s_law) f (.ref cc) A outer s H E).nox) (po := po) (ej _ _ h7w lamO_ne) (ej _ _ k7w (fun ps => codeO_ne ps)) (fun y hy e => ndef_free (sc := defScope s_law) (fr := []) (by decide +kernel) y hy e) (by decide +kernel) rfl
                  (nscope_by (by show nscB _ _ _ (Scope.mk .function [("_law_other", .free), ("read", .globalImplicit)] false false []) = true; decide +kernel)) (fun _ _ _ _ _ => rfl) (fun q cl c' f A3 outer3 s3 H3 E3 hr3 => pe_callS G_read (hr3.mono (by decide)) (by rfl) C_read.m C_read.k C_read.b (fun σ => passAt (takes_of rfl rfl rfl rfl) σ) (pa_cons (pv 0) (pa_cons pe_str pa_nil))) rfl tj hpo hy⟩
            refine ⟨_, rfl, fx, _, rfl, hw, fun H' p s' t' hp => ?_⟩
            refine ⟨_, rfl, (by show 2 ≤ sizeLine; decide), fun q hq => ?_⟩
            have sq := same_new (o := HO.tup [.str (Str.ofString "disk"), .str (whyS d2)]) hq
            refine ne_word (o := some (.disk (whyS d2))) (ok_why hy) (SqT.of (sq _ _ hp)) (SqT.of upd_same) ⟨_, rfl, iteF ?_⟩
            exact ⟨ej.trans ((ext_of s').trans (.of sq)), t'.ext sq, _, rfl⟩
        · rintro σ Hx ⟨ex, tx, v11, rfl⟩
          have hRx := row_e hRw ex
          have dpdx := dp_rr (rr_ext (r := r) ex) dpdw
          have hxbx := dpa_rr (rr_ext (r := r) ex) hxbw
          have ebx := lst_e ex ebw
          have epx := lst_e ex epw
          clear dpqw dpow hxbw ebw epw hRw dpdw Tw ew eA eB h7w k7w e7w epf hwk
          have hlen0 : 0 < ps.length := List.length_pos_iff.mpr hps1
          refine ⟨_, rfl, _, rfl, pp, ps, rfl, SqL.of epx, hlen0, fun m hm hle => ⟨(by show 2 ≤ sizeLine; decide), fun t1 ht1 => ?_⟩⟩
          have s20 := same_new (o := .tup [.ref pb, .int m]) ht1
          have e20 : upd Hx t1 (.tup [.ref pb, .int m]) t1 = some (.tup [.ref pb, .int m]) := upd_same
          revert s20 e20
          generalize upd Hx t1 (.tup [.ref pb, .int m]) = H20
          intro s20 e20
          refine ⟨(by show 3 ≤ sizeLine; decide), fun tz htz => ?_⟩
          have s21 := same_new (o := .tup [.int 0, .int 0, .int 0]) htz
          refine ⟨(by show 1 ≤ sizeLine; decide), fun Lz hLz => ?_⟩
          have s22 := same_new (o := .lst [.ref tz]) hLz
          have etz := s22 _ _ (upd_same (H := H20) (a := tz) (o := .tup [.int 0, .int 0, .int 0]))
          have eLz : upd (upd H20 tz (.tup [.int 0, .int 0, .int 0])) Lz (.lst [.ref tz]) Lz = some (.lst [.ref tz]) := upd_same
          have s202 := s20.trans (s21.trans s22)
          have e202 := s22 _ _ (s21 _ _ e20)
          revert s202 e202 etz eLz
          generalize hH22 : upd (upd H20 tz (.tup [.int 0, .int 0, .int 0])) Lz (.lst [.ref tz]) = H22
          intro etz eLz s202 e202
          have hR22 := hRx.but s202
          have nr22 : ∀ {b : Addr} {xs : List V}, H22 b = some (.tup xs) → b ≠ r := fun {b xs} e => by
            obtain ⟨_, _, _, _, _, h0, _⟩ := hR22
            exact ne_of e h0 (by intro z; cases z)
          have nLz : Lz ≠ r := (hRx.but (s20.trans s21)).ne hLz
          refine ⟨_, rfl, r, 3, rfl, hR22, by decide, fun H23 n3 n30 n33 hR23 sb23 => ?_⟩
          have T23 := tabs_row (tx.ext s202) hR22 sb23
          have rr23 : Rr r Hx H23 := (rr_same s202).trans (rr_but sb23)
          have et1 := sb23 _ _ (nr22 e202) e202
          have etz3 := sb23 _ _ (nr22 etz) etz
          refine ⟨_, _, rfl, rfl, Lz, 41 + n3, [.ref tz], rfl, rfl, sb23 _ _ nLz eLz, by omega, by omega, (by show 1 * _ ≤ sizeLine; omega), fun Dz hDz => ?_⟩
          rw [rep_flat]
          have s24 := same_new (o := .lst (List.replicate (41 + n3).toNat (V.ref tz))) hDz
          have eDz : upd H23 Dz (.lst (List.replicate (41 + n3).toNat (V.ref tz))) Dz = some (.lst (List.replicate (41 + n3).toNat (V.ref tz))) := upd_same
          refine ⟨(by show 2 ≤ sizeLine; decide), fun t2 ht2 => ?_⟩
          have s25 := same_new (o := .tup [.ref Dz, .int 40]) ht2
          have et2 := upd_same (H := upd H23 Dz (.lst (List.replicate (41 + n3).toNat (V.ref tz)))) (a := t2) (o := .tup [.ref Dz, .int 40])
          refine ⟨(by show 2 ≤ sizeLine; decide), fun LL hLL => ?_⟩
          have s26 := same_new (o := .lst [.ref t1, .ref t2]) hLL
          have eLL := upd_same (H := upd (upd H23 Dz (.lst (List.replicate (41 + n3).toNat (V.ref tz)))) t2 (.tup [.ref Dz, .int 40])) (a := LL) (o := .lst [.ref t1, .ref t2])
          have s246 := s24.trans (s25.trans s26)
          have eDz6 := s26 _ _ (s25 _ _ eDz)
          have et26 := s26 _ _ et2
          revert s246 eDz6 et26 eLL
          generalize upd (upd (upd H23 Dz (.lst (List.replicate (41 + n3).toNat (V.ref tz)))) t2 (.tup [.ref Dz, .int 40])) LL (.lst [.ref t1, .ref t2]) = H26
          intro eLL s246 eDz6 et26
          have rr26 := rr23.trans (rr_same s246)
          have T26 := T23.ext s246
          have hR26 := hR23.but s246
          have dpd26 := dp_rr rr26 dpdx
          have dpd26w := dp_wo dpd26
          have et16 := s246 _ _ et1
          have dpb26 : Dp K H26 (.ref pb) (dAsks lb) := .lst (SqL.of (rr26 _ _ npb ebx (fun ps z => by cases z))) (dpa_same wo_sub (dpa_rr rr26 hxbx))
          have dpz26 : Dp K H26 (.ref Dz) (dAsks (List.replicate (41 + n3).toNat (0, 0, 0))) := by
            refine .lst (SqL.of eDz6) ?_
            rw [List.map_replicate]
            exact dpa_rep (dp_tints_of (ns := [0, 0, 0]) (SqT.of (s246 _ _ etz3))) _
          have hob : ∀ i, WOut d lb i (some (.ask m)) := hB.out g (by omega) hm hle
          have hoz : ∀ i, WOut d (List.replicate (41 + n3).toNat (0, 0, 0)) i (some (.ask 40)) := many_out g (by omega)
          refine ⟨LL, rfl, ⟨_, SqL.of eLL⟩, ?_⟩
          refine for_list (K := K) (a := LL) (xs := [.ref t1, .ref t2]) (fun j σ H' => ExtN H26 H' ∧ Tabs T H' ∧ ∃ v11 v17 v18 : Option V, σ = [some (.ref a), some (.ref r), some (.int (0 + (i0 : Int))), some (.ref pd), some (.ref po), some (.ref pa), some (.ref pb), some (.ref pp), v8, some (.str (whyS d2)), some (.ref pw), v11, v12, v13, v14, v15, v16, v17, v18, v19, v20, v21])
            ⟨ExtN.refl H26, T26, _, _, _, rfl⟩ (fun j σ H' _ ⟨e, _, _, _⟩ => SqL.of (lst_e e eLL)) ?_ ?_
          · rintro j x σ Hj hx ⟨ej, tj, v11, v17, v18, rfl⟩
            obtain ⟨t, u, due, ls, rfl, et, dpu, hlu, hou⟩ : ∃ (t u : Addr) (due : Int) (ls : List Ask), x = .ref t ∧ H26 t = some (.tup [.ref u, .int due]) ∧ Dp K H26 (.ref u) (dAsks ls) ∧ ls.length ≤ 1000 ∧ ∀ i, WOut d ls i (some (.ask due)) := by
              match j, hx with
              | 0, hx => cases hx; exact ⟨t1, pb, m, lb, rfl, et16, dpb26, by omega, hob⟩
              | 1, hx => cases hx; exact ⟨t2, Dz, 40, _, rfl, et26, dpz26, by rw [List.length_replicate]; omega, hoz⟩
              | j + 2, hx => cases hx
            refine ⟨t, _, rfl, SqT.of (tup_e ej et), rfl, _, _, rfl, _, _, rfl, ?_⟩
            show gName 18 (.int due) [some (.ref a), some (.ref r), some (.int (0 + (i0 : Int))), some (.ref pd), some (.ref po), some (.ref pa), some (.ref pb), some (.ref pp), v8, some (.str (whyS d2)), some (.ref pw), v11, v12, v13, v14, v15, v16, some (.ref u), v18, v19, v20, v21] Hj _
            refine ⟨rfl, ?_⟩
            refine ⟨_, rfl, _, rfl, .ref pd, .ref u, rfl, tj, fun H30 pf fs s30 T30 hfs epf hwk => ⟨pf, rfl, ⟨_, SqL.of epf⟩, fun D hD => ?_⟩⟩
            have e30 := ej.trans (ext_of s30)
            have s31 := same_new (o := .lst []) hD
            refine lc_list (K := K) (a := pf) (xs := fs.map V.ref) (fun i H' => ExtN H30 H' ∧ Tabs T H' ∧ H' D = some (.lst [])) ⟨.of s31, T30.ext s31, upd_same⟩ (fun i H' _ ⟨e, _, _⟩ => SqL.of (lst_e e epf)) ?_ ?_
            · rintro i x H' hx ⟨e', t', eD⟩
              rw [List.getElem?_map] at hx
              cases ef : fs[i]? with
              | none => rw [ef] at hx; cases hx
              | some fx =>
                rw [ef] at hx
                obtain rfl := (Option.some.inj hx).symm
                have hi6 : i < 6 := by
                  have := (List.getElem?_eq_some_iff.mp ef).1
                  omega
                have e26 := e30.trans e'
                refine ⟨rfl, ?_⟩
                refine ⟨_, rfl, fx, _, rfl, wk_run G_by_order C_by_order G_by_rule C_by_rule G_least_sum C_least_sum G_front C_front G_held C_held G_written C_written ((hwk i fx ef).ext e') hi6 t' (dp_e e26 dpd26w) (dp_e e26 dpu) hlu (hou i), fun H32 p s32 t32 hp => ?_⟩
                refine ⟨_, rfl, (by show 2 ≤ sizeLine; decide), fun q hq => ?_⟩
                have sq := same_new (o := HO.tup [.str (Str.ofString "ask"), .int due]) hq
                refine ne_word (o := some (.ask due)) trivial (SqT.of (sq _ _ hp)) (SqT.of upd_same) ⟨_, rfl, iteF ?_⟩
                have e32 := (ext_of s32).trans (.of sq)
                exact ⟨e'.trans e32, t32.ext sq, lst_e e32 eD⟩
            · rintro H' ⟨e', t', eD⟩
              refine ⟨Nat.zero_le _, fun e2 he2 => ?_⟩
              have s33 := same_new (o := .lst []) he2
              refine ⟨.list [], .list [], .lst (SqL.of (s33 _ _ eD)) .nil, .lst (SqL.of upd_same) .nil, rfl, rfl, _, rfl, iteF ?_⟩
              exact ⟨e30.trans (e'.trans (.of s33)), t'.ext s33, _, _, _, rfl⟩
          · rintro σ Hy ⟨ey, ty, v11, v17, v18, rfl⟩
            have hRy := row_e hR26 ey
            have dpdy := dp_rr (rr_ext (r := r) ey) dpd26
            have dpdyw := dp_wo dpdy
            clear dpb26 dpz26 hob hoz et26 et16 eDz6 eLL dpd26w dpd26
            refine ⟨_, rfl, (by show 3 ≤ sizeLine; decide), fun tz htz => ?_⟩
            have s40 := same_new (o := .tup [.int 0, .int 0, .int 0]) htz
            refine ⟨(by show 1 ≤ sizeLine; decide), fun Lz hLz => ?_⟩
            have s41 := s40.trans (same_new (o := .lst [.ref tz]) hLz)
            refine ⟨Lz, 40, [.ref tz], rfl, rfl, upd_same, by decide, by decide, (by show 1 * 40 ≤ sizeLine; decide), fun Dz hDz => ?_⟩
            rw [rep_flat, show (40 : Int).toNat = 40 from rfl]
            have s42 := s41.trans (same_new (o := .lst (List.replicate 40 (V.ref tz))) hDz)
            have etz : upd (upd (upd Hy tz (.tup [.int 0, .int 0, .int 0])) Lz (.lst [.ref tz])) Dz (.lst (List.replicate 40 (V.ref tz))) tz = some (.tup [.int 0, .int 0, .int 0]) := (same_new (o := .lst [.ref tz]) hLz).trans (same_new (o := .lst (List.replicate 40 (V.ref tz))) hDz) _ _ upd_same
            have eDz : upd (upd (upd Hy tz (.tup [.int 0, .int 0, .int 0])) Lz (.lst [.ref tz])) Dz (.lst (List.replicate 40 (V.ref tz))) Dz = some (.lst (List.replicate 40 (V.ref tz))) := upd_same
            revert s42 etz eDz
            generalize upd (upd (upd Hy tz (.tup [.int 0, .int 0, .int 0])) Lz (.lst [.ref tz])) Dz (.lst (List.replicate 40 (V.ref tz))) = H42
            intro s42 etz eDz
            have dpz : Dp K H42 (.ref Dz) (dAsks (List.replicate 40 (0, 0, 0))) := by
              refine .lst (SqL.of eDz) ?_
              rw [List.map_replicate]
              exact dpa_rep (dp_tints_of (ns := [0, 0, 0]) (SqT.of etz)) _
            refine ⟨.ref pd, .ref Dz, rfl, ty.ext s42, fun H40 pf fs s43 T40 hfs epf hwk => ⟨pf, rfl, ⟨_, SqL.of epf⟩, fun D hD => ?_⟩⟩
            have e40 : ExtN Hy H40 := (ExtN.of s42).trans (ext_of s43)
            have e42 : ExtN H42 H40 := ext_of s43
            have s44 := same_new (o := .lst []) hD
            refine lc_list (K := K) (a := pf) (xs := fs.map V.ref) (fun i H' => ExtN H40 H' ∧ Tabs T H' ∧ ∃ ts : List V, H' D = some (.lst ts) ∧ ts.length = i ∧ DpAll K (wo H' D) ts ((List.range i).map fun j => dWord (goodO j))) ⟨.of s44, T40.ext s44, [], upd_same, rfl, .nil⟩ (fun i H' _ ⟨e, _, _⟩ => SqL.of (lst_e e epf)) ?_ ?_
            · rintro i x H' hx ⟨e', t', ts, eD, hts, hda⟩
              rw [List.getElem?_map] at hx
              cases ef : fs[i]? with
              | none => rw [ef] at hx; cases hx
              | some fx =>
                rw [ef] at hx
                obtain rfl := (Option.some.inj hx).symm
                have hi6 : i < 6 := by
                  have := (List.getElem?_eq_some_iff.mp ef).1
                  omega
                refine ⟨rfl, ?_⟩
                refine ⟨_, rfl, fx, _, rfl, wk_run G_by_order C_by_order G_by_rule C_by_rule G_least_sum C_least_sum G_front C_front G_held C_held G_written C_written ((hwk i fx ef).ext e') hi6 t' (dp_e (e40.trans e') dpdyw) (dp_e (e42.trans e') dpz) (by rw [List.length_replicate]; decide) (forty_out g i), fun H44 p s45 t45 hp => ?_⟩
                have e45 := ext_of s45
                have eD45 := lst_e e45 eD
                have npD : p ≠ D := ne_of hp eD45 (by intro z; cases z)
                have hDnew : H40 D = none := hD
                refine ⟨ts, eD45, small1000 (by omega), ?_, ?_, ts ++ [.ref p], upd_same, by rw [List.length_append, hts]; rfl, ?_⟩
                · intro b o hb hn
                  rw [upd_ne (fun z => by rw [z, hDnew] at hb; cases hb)]
                  exact (e'.trans e45) b o hb hn
                · exact tabs_upd t45 eD45 (by intro _ z; cases z) (by intro _ z; cases z)
                · rw [List.range_succ, List.map_append]
                  have sw : Same (wo H44 D) (wo (upd H44 D (.lst (ts ++ [.ref p]))) D) := fun b o hb => by
                    have nb : b ≠ D := fun z => by rw [z] at hb; unfold wo at hb; rw [if_pos rfl] at hb; cases hb
                    rw [wo_ne nb] at hb ⊢
                    rw [upd_ne nb]
                    exact hb
                  exact dpa_app (dpa_same sw (dpa_rr (rr_ext e45) hda)) (.cons (dp_word (SqT.of (by rw [wo_ne npD, upd_ne npD]; exact hp))) .nil)
            · rintro H' ⟨e', t', ts, eD, hts, hda⟩
              have e41 := e40.trans e'
              rw [List.length_map, hfs] at hda
              have hda := dpa_same (K := K) wo_sub hda
              show gName 12 (.ref D) [some (.ref a), some (.ref r), some (.int (0 + (i0 : Int))), some (.ref pd), some (.ref po), some (.ref pa), some (.ref pb), some (.ref pp), v8, some (.str (whyS d2)), some (.ref pw), v11, v12, v13, v14, v15, v16, v17, v18, v19, v20, v21] H' _
              refine ⟨_, rfl, ?_⟩
              refine ⟨(by show 2 ≤ sizeLine; decide), fun q0 hq0 => ?_⟩
              have z0 := same_new (o := .tup [.str (Str.ofString "order"), .non]) hq0
              have g0 : upd H' q0 (.tup [.str (Str.ofString "order"), .non]) q0 = some (.tup [.str (Str.ofString "order"), .non]) := upd_same
              revert z0 g0
              generalize upd H' q0 (.tup [.str (Str.ofString "order"), .non]) = G0
              intro z0 g0
              refine ⟨(by show 2 ≤ sizeLine; decide), fun q1 hq1 => ?_⟩
              have z1 := same_new (o := .tup [.str (Str.ofString "rule"), .non]) hq1
              have g1 : upd G0 q1 (.tup [.str (Str.ofString "rule"), .non]) q1 = some (.tup [.str (Str.ofString "rule"), .non]) := upd_same
              revert z1 g1
              generalize upd G0 q1 (.tup [.str (Str.ofString "rule"), .non]) = G1
              intro z1 g1
              refine ⟨(by show 2 ≤ sizeLine; decide), fun q2 hq2 => ?_⟩
              have z2 := same_new (o := .tup [.str (Str.ofString "many"), .non]) hq2
              have g2 : upd G1 q2 (.tup [.str (Str.ofString "many"), .non]) q2 = some (.tup [.str (Str.ofString "many"), .non]) := upd_same
              revert z2 g2
              generalize upd G1 q2 (.tup [.str (Str.ofString "many"), .non]) = G2
              intro z2 g2
              refine ⟨(by show 2 ≤ sizeLine; decide), fun q3 hq3 => ?_⟩
              have z3 := same_new (o := .tup [.str (Str.ofString "many"), .non]) hq3
              have g3 : upd G2 q3 (.tup [.str (Str.ofString "many"), .non]) q3 = some (.tup [.str (Str.ofString "many"), .non]) := upd_same
              revert z3 g3
              generalize upd G2 q3 (.tup [.str (Str.ofString "many"), .non]) = G3
              intro z3 g3
              refine ⟨(by show 2 ≤ sizeLine; decide), fun q4 hq4 => ?_⟩
              have z4 := same_new (o := .tup [.str (Str.ofString ""), .non]) hq4
              have g4 : upd G3 q4 (.tup [.str (Str.ofString ""), .non]) q4 = some (.tup [.str (Str.ofString ""), .non]) := upd_same
              revert z4 g4
              generalize upd G3 q4 (.tup [.str (Str.ofString ""), .non]) = G4
              intro z4 g4
              refine ⟨(by show 2 ≤ sizeLine; decide), fun q5 hq5 => ?_⟩
              have z5 := same_new (o := .tup [.str (Str.ofString ""), .non]) hq5
              have g5 : upd G4 q5 (.tup [.str (Str.ofString ""), .non]) q5 = some (.tup [.str (Str.ofString ""), .non]) := upd_same
              revert z5 g5
              generalize upd G4 q5 (.tup [.str (Str.ofString ""), .non]) = G5
              intro z5 g5
              refine ⟨(by show 6 ≤ sizeLine; decide), fun LW hLW => ?_⟩
              have z6 := same_new (o := .lst [.ref q0, .ref q1, .ref q2, .ref q3, .ref q4, .ref q5]) hLW
              have zA := z0.trans (z1.trans (z2.trans (z3.trans (z4.trans (z5.trans z6)))))
              refine ⟨.list ((List.range 6).map fun j => dWord (goodO j)), .list [dWord (some .order), dWord (some .rule), dWord (some .many), dWord (some .many), dWord none, dWord none], .lst (SqL.of (zA _ _ eD)) (dpa_same zA hda), .lst (SqL.of upd_same) ?_, by decide +kernel, by decide +kernel, _, rfl, ?_⟩
              · exact .cons (dp_word (o := some .order) (SqT.of ((z1.trans (z2.trans (z3.trans (z4.trans (z5.trans (z6)))))) _ _ g0))) (.cons (dp_word (o := some .rule) (SqT.of ((z2.trans (z3.trans (z4.trans (z5.trans (z6))))) _ _ g1))) (.cons (dp_word (o := some .many) (SqT.of ((z3.trans (z4.trans (z5.trans (z6)))) _ _ g2))) (.cons (dp_word (o := some .many) (SqT.of ((z4.trans (z5.trans (z6))) _ _ g3))) (.cons (dp_word (o := none) (SqT.of ((z5.trans (z6)) _ _ g4))) (.cons (dp_word (o := none) (SqT.of ((z6) _ _ g5))) (.nil))))))
              · rw [show PyData.eqv (.list ((List.range 6).map fun j => dWord (goodO j))) (.list [dWord (some .order), dWord (some .rule), dWord (some .many), dWord (some .many), dWord none, dWord none]) = true by decide +kernel]
                refine iteF ?_
                have e46 := e41.trans (ExtN.of zA)
                have T46 := t'.ext zA
                have hR46 := row_e hRy e46
                have dpd46 := dp_rr (rr_ext (r := r) e46) dpdy
                revert e46 T46 hR46 dpd46
                generalize upd G5 LW (.lst [.ref q0, .ref q1, .ref q2, .ref q3, .ref q4, .ref q5]) = H46
                intro e46 T46 hR46 dpd46
                refine ⟨T46, fun H50 s50 T50 => ⟨some .many, ⟨_, rfl, zeros_made (n := 7) rfl (by decide) fun Dz H51 s51 dpz => ⟨.ref pd, .ref Dz, d, _, rfl, dp_same (s50.trans s51) (dp_nt (dp_wo dpd46)), dpz, by rw [List.length_replicate]; decide, refu_good g (fits_zero g (by decide)) ⟨by rw [List.length_replicate]; decide, .many, rfl, ⟨rfl, rfl⟩, (ntH_sub H50).trans s51, T50.ext s51⟩⟩⟩, fun H' p s52 t52 hp => ?_⟩⟩
                refine ⟨(by show 2 ≤ sizeLine; decide), fun q hq => ?_⟩
                have sq := same_new (o := HO.tup [.str (Str.ofString "many"), .non]) hq
                refine ne_word (o := some .many) trivial (SqT.of (sq _ _ hp)) (SqT.of upd_same) ⟨_, rfl, iteF ?_⟩
                have e52 : ExtN H46 (upd H' q (.tup [.str (Str.ofString "many"), .non])) := (ext_of s50).trans ((ext_of s52).trans (.of sq))
                have T52 := t52.ext sq
                revert e52 T52
                generalize upd H' q (.tup [.str (Str.ofString "many"), .non]) = H53
                intro e52 T52
                refine ⟨(by show 2 ≤ sizeLine; decide), fun a0 ha0 => ?_⟩
                have y0 := same_new (o := .lst [.int 0, .int 0]) ha0
                have b0 : upd H53 a0 (.lst [.int 0, .int 0]) a0 = some (.lst [.int 0, .int 0]) := upd_same
                revert y0 b0
                generalize upd H53 a0 (.lst [.int 0, .int 0]) = B0
                intro y0 b0
                refine ⟨(by show 1 ≤ sizeLine; decide), fun a1 ha1 => ?_⟩
                have y1 := same_new (o := .lst [.int 1]) ha1
                have b1 : upd B0 a1 (.lst [.int 1]) a1 = some (.lst [.int 1]) := upd_same
                revert y1 b1
                generalize upd B0 a1 (.lst [.int 1]) = B1
                intro y1 b1
                refine ⟨(by show 3 ≤ sizeLine; decide), fun a2 ha2 => ?_⟩
                have y2 := same_new (o := .lst [.int 0, .int 1, .int 2]) ha2
                have b2 : upd B1 a2 (.lst [.int 0, .int 1, .int 2]) a2 = some (.lst [.int 0, .int 1, .int 2]) := upd_same
                revert y2 b2
                generalize upd B1 a2 (.lst [.int 0, .int 1, .int 2]) = B2
                intro y2 b2
                refine ⟨Nat.zero_le _, fun a3 ha3 => ?_⟩
                have y3 := same_new (o := .lst []) ha3
                have b3 : upd B2 a3 (.lst []) a3 = some (.lst []) := upd_same
                revert y3 b3
                generalize upd B2 a3 (.lst []) = B3
                intro y3 b3
                refine ⟨_, _, rfl, rfl, (by show 2 ≤ sizeLine; decide), fun a4 ha4 => ?_⟩
                have y4 := same_new (o := .lst [.int (0 - 1), .int 0]) ha4
                have b4 : upd B3 a4 (.lst [.int (0 - 1), .int 0]) a4 = some (.lst [.int (0 - 1), .int 0]) := upd_same
                revert y4 b4
                generalize upd B3 a4 (.lst [.int (0 - 1), .int 0]) = B4
                intro y4 b4
                refine ⟨(by show 2 ≤ sizeLine; decide), fun a5 ha5 => ?_⟩
                have y5 := same_new (o := .lst [.int 2, .int 0]) ha5
                have b5 : upd B4 a5 (.lst [.int 2, .int 0]) a5 = some (.lst [.int 2, .int 0]) := upd_same
                revert y5 b5
                generalize upd B4 a5 (.lst [.int 2, .int 0]) = B5
                intro y5 b5
                refine ⟨(by show 3 ≤ sizeLine; decide), fun a6 ha6 => ?_⟩
                have y6 := same_new (o := .lst [.int 0, .int 1, .int 1]) ha6
                have b6 : upd B5 a6 (.lst [.int 0, .int 1, .int 1]) a6 = some (.lst [.int 0, .int 1, .int 1]) := upd_same
                revert y6 b6
                generalize upd B5 a6 (.lst [.int 0, .int 1, .int 1]) = B6
                intro y6 b6
                refine ⟨(by show 7 ≤ sizeLine; decide), fun LO hLO => ?_⟩
                have y7 := same_new (o := .lst [.ref a0, .ref a1, .ref a2, .ref a3, .ref a4, .ref a5, .ref a6]) hLO
                have eLO : upd B6 LO (.lst [.ref a0, .ref a1, .ref a2, .ref a3, .ref a4, .ref a5, .ref a6]) LO = some (.lst [.ref a0, .ref a1, .ref a2, .ref a3, .ref a4, .ref a5, .ref a6]) := upd_same
                have yA := y0.trans (y1.trans (y2.trans (y3.trans (y4.trans (y5.trans (y6.trans y7))))))
                have x0 := (y1.trans (y2.trans (y3.trans (y4.trans (y5.trans (y6.trans (y7))))))) _ _ b0
                have x1 := (y2.trans (y3.trans (y4.trans (y5.trans (y6.trans (y7)))))) _ _ b1
                have x2 := (y3.trans (y4.trans (y5.trans (y6.trans (y7))))) _ _ b2
                have x3 := (y4.trans (y5.trans (y6.trans (y7)))) _ _ b3
                have x4 := (y5.trans (y6.trans (y7))) _ _ b4
                have x5 := (y6.trans (y7)) _ _ b5
                have x6 := (y7) _ _ b6
                revert yA eLO x0 x1 x2 x3 x4 x5 x6
                generalize upd B6 LO (.lst [.ref a0, .ref a1, .ref a2, .ref a3, .ref a4, .ref a5, .ref a6]) = H54
                intro eLO yA x0 x1 x2 x3 x4 x5 x6
                have e54 := e52.trans (ExtN.of yA)
                have T54 := T52.ext yA
                have hR54 := row_e hR46 e54
                have dpd54 := dp_rr (rr_ext (r := r) e54) dpd46
                have dpd54w := dp_wo dpd54
                show gName 13 (.ref LO) [some (.ref a), some (.ref r), some (.int (0 + (i0 : Int))), some (.ref pd), some (.ref po), some (.ref pa), some (.ref pb), some (.ref pp), v8, some (.str (whyS d2)), some (.ref pw), v11, some (.ref D), v13, v14, v15, v16, v17, v18, v19, v20, v21] H54 _
                refine ⟨_, rfl, LO, rfl, ⟨_, SqL.of eLO⟩, fun D2 hD2 => ?_⟩
                have s55 := same_new (o := .lst []) hD2
                refine lc_list (K := K) (a := LO) (xs := [.ref a0, .ref a1, .ref a2, .ref a3, .ref a4, .ref a5, .ref a6]) (fun i H' => ExtN H54 H' ∧ Tabs T H' ∧ H' D2 = some (.lst [])) ⟨.of s55, T54.ext s55, upd_same⟩ (fun i H' _ ⟨e, _, _⟩ => SqL.of (lst_e e eLO)) ?_ ?_
                · rintro i x H' hx ⟨e', t', eD⟩
                  obtain ⟨ai, ns, rfl, hai, hnp⟩ : ∃ (ai : Addr) (ns : List Int), x = .ref ai ∧ H54 ai = some (.lst (ns.map V.int)) ∧ ¬ ns.Perm [0, 1] := by
                    match i, hx with
                    | 0, hx => cases hx; exact ⟨a0, [0, 0], rfl, x0, by decide⟩
                    | 1, hx => cases hx; exact ⟨a1, [1], rfl, x1, by decide⟩
                    | 2, hx => cases hx; exact ⟨a2, [0, 1, 2], rfl, x2, by decide⟩
                    | 3, hx => cases hx; exact ⟨a3, [], rfl, x3, by decide⟩
                    | 4, hx => cases hx; exact ⟨a4, [0 - 1, 0], rfl, x4, by decide⟩
                    | 5, hx => cases hx; exact ⟨a5, [2, 0], rfl, x5, by decide⟩
                    | 6, hx => cases hx; exact ⟨a6, [0, 1, 1], rfl, x6, by decide⟩
                    | i + 7, hx => cases hx
                  refine ⟨rfl, ?_⟩
                  refine ⟨t', fun H60 s60 T60 => ⟨some .order, ⟨_, rfl, zeros_made (n := 2) rfl (by decide) fun Dz H61 s61 dpz => ⟨_, rfl, .ref pd, .ref Dz, .ref ai, d, _, ns, rfl, dp_same (s60.trans s61) (dp_nt (dp_e e' dpd54w)), dpz, dp_ints_of (SqL.of (s61 _ _ (lst_e (ext_of s60) (lst_e e' hai)))), by rw [List.length_replicate]; decide, refu_good g (fits_zero g (by decide)) ⟨fun z => hnp z, fun H62 s62 => ⟨.order, rfl, ⟨rfl, rfl⟩, (ntH_sub H60).trans (s61.trans s62), (T60.ext s61).ext s62⟩⟩⟩⟩, fun H63 p s63 t63 hp => ?_⟩⟩
                  refine ⟨(by show 2 ≤ sizeLine; decide), fun q hq => ?_⟩
                  have sq := same_new (o := HO.tup [.str (Str.ofString "order"), .non]) hq
                  refine ne_word (o := some .order) trivial (SqT.of (sq _ _ hp)) (SqT.of upd_same) ⟨_, rfl, iteF ?_⟩
                  have e63 := (ext_of s60).trans ((ext_of s63).trans (.of sq))
                  exact ⟨e'.trans e63, t63.ext sq, lst_e e63 eD⟩
                · rintro H' ⟨e', t', eD⟩
                  refine ⟨Nat.zero_le _, fun e2 he2 => ?_⟩
                  have s64 := same_new (o := .lst []) he2
                  refine ⟨.list [], .list [], .lst (SqL.of (s64 _ _ eD)) .nil, .lst (SqL.of upd_same) .nil, rfl, rfl, _, rfl, iteF ?_⟩
                  have e64 := e'.trans (.of s64)
                  have T64 := t'.ext s64
                  have hR64 := row_e hR54 e64
                  have dpd64 := dp_rr (rr_ext (r := r) e64) dpd54
                  revert e64 T64 hR64 dpd64
                  generalize upd H' e2 (.lst []) = H64
                  intro e64 T64 hR64 dpd64
                  refine ⟨(by show 2 ≤ sizeLine; decide), fun La hLa => ?_⟩
                  have s65 := same_new (o := .lst [.str (Str.ofString "a"), .str (Str.ofString "zz")]) hLa
                  have nLa := hR64.ne hLa
                  refine ⟨_, rfl, r, 2, rfl, hR64.but s65, by decide, fun H66 n6 n60 n62 hR66 sb66 => ?_⟩
                  have T66 := tabs_row (T64.ext s65) (hR64.but s65) sb66
                  have rr66 : Rr r H64 H66 := (rr_same s65).trans (rr_but sb66)
                  have dpd66 := dp_rr rr66 dpd64
                  have eLa : H66 La = some (.lst [.str (Str.ofString "a"), .str (Str.ofString "zz")]) := sb66 _ _ nLa upd_same
                  obtain ⟨zz, hzz, hzn⟩ : ∃ zz : Str, atI [V.str (Str.ofString "a"), .str (Str.ofString "zz")] n6 = some (.str zz) ∧ inV (.str zz) rulesV = false := by
                    rcases (by omega : n6 = 0 ∨ n6 = 1) with rfl | rfl
                    · exact ⟨_, rfl, by decide +kernel⟩
                    · exact ⟨_, rfl, by decide +kernel⟩
                  refine ⟨La, _, n6, _, rfl, rfl, SqL.of eLa, hzz, (by show 7 ≤ sizeLine; decide), fun Lo hLo => ?_⟩
                  have s67 := same_new (o := .lst [.str (Str.ofString ""), .str (Str.ofString "First"), .str (Str.ofString "nearest"), .str (Str.ofString "up"), .str (Str.ofString "swee"), .str (Str.ofString "oop"), .str zz]) hLo
                  have eLo : upd H66 Lo (.lst [.str (Str.ofString ""), .str (Str.ofString "First"), .str (Str.ofString "nearest"), .str (Str.ofString "up"), .str (Str.ofString "swee"), .str (Str.ofString "oop"), .str zz]) Lo = some (.lst (([Str.ofString "", Str.ofString "First", Str.ofString "nearest", Str.ofString "up", Str.ofString "swee", Str.ofString "oop", zz] : List Str).map V.str)) := upd_same
                  have hR67 := hR66.but s67
                  have T67 := T66.ext s67
                  have dpd67 := dp_rr (rr_same (r := r) s67) dpd66
                  show gName 14 (.ref Lo) [some (.ref a), some (.ref r), some (.int (0 + (i0 : Int))), some (.ref pd), some (.ref po), some (.ref pa), some (.ref pb), some (.ref pp), v8, some (.str (whyS d2)), some (.ref pw), v11, some (.ref D), some (.ref LO), v14, v15, v16, v17, v18, v19, v20, v21] (upd H66 Lo (.lst [.str (Str.ofString ""), .str (Str.ofString "First"), .str (Str.ofString "nearest"), .str (Str.ofString "up"), .str (Str.ofString "swee"), .str (Str.ofString "oop"), .str zz])) _
                  have hys : ∀ y ∈ ([Str.ofString "", Str.ofString "First", Str.ofString "nearest", Str.ofString "up", Str.ofString "swee", Str.ofString "oop", zz] : List Str), inV (.str y) rulesV = false := fun y hy => by
                    simp only [List.mem_cons, List.not_mem_nil, or_false] at hy
                    rcases hy with rfl | rfl | rfl | rfl | rfl | rfl | rfl
                    · decide +kernel
                    · decide +kernel
                    · decide +kernel
                    · decide +kernel
                    · decide +kernel
                    · decide +kernel
                    · exact hzn
                  have hyl : ([Str.ofString "", Str.ofString "First", Str.ofString "nearest", Str.ofString "up", Str.ofString "swee", Str.ofString "oop", zz] : List Str).length = 7 := rfl
                  revert eLo hR67 T67 dpd67 hys hyl
                  generalize upd H66 Lo (.lst [.str (Str.ofString ""), .str (Str.ofString "First"), .str (Str.ofString "nearest"), .str (Str.ofString "up"), .str (Str.ofString "swee"), .str (Str.ofString "oop"), .str zz]) = H67
                  generalize ([Str.ofString "", Str.ofString "First", Str.ofString "nearest", Str.ofString "up", Str.ofString "swee", Str.ofString "oop", zz] : List Str) = ys
                  intro eLo hR67 T67 dpd67 hys hyl
                  refine ⟨(by show 5 ≤ sizeLine; decide), fun Lr hLr => ?_⟩
                  have s68 := same_new (o := .lst [.str (Str.ofString "first"), .str (Str.ofString "near"), .str (Str.ofString "soon"), .str (Str.ofString "sweep"), .str (Str.ofString "loop")]) hLr
                  have eLr : upd H67 Lr (.lst [.str (Str.ofString "first"), .str (Str.ofString "near"), .str (Str.ofString "soon"), .str (Str.ofString "sweep"), .str (Str.ofString "loop")]) Lr = some (.lst [.str (Str.ofString "first"), .str (Str.ofString "near"), .str (Str.ofString "soon"), .str (Str.ofString "sweep"), .str (Str.ofString "loop")]) := upd_same
                  have hR68 := hR67.but s68
                  have T68 := T67.ext s68
                  have dpd68 := dp_rr (rr_same (r := r) s68) dpd67
                  have eLo8 := s68 _ _ eLo
                  revert eLr hR68 T68 dpd68 eLo8
                  generalize upd H67 Lr (.lst [.str (Str.ofString "first"), .str (Str.ofString "near"), .str (Str.ofString "soon"), .str (Str.ofString "sweep"), .str (Str.ofString "loop")]) = H68
                  intro eLr hR68 T68 dpd68 eLo8
                  refine ⟨Lr, rfl, ⟨_, SqL.of eLr⟩, ?_⟩
                  refine for_list (K := K) (a := Lr) (xs := [.str (Str.ofString "first"), .str (Str.ofString "near"), .str (Str.ofString "soon"), .str (Str.ofString "sweep"), .str (Str.ofString "loop")]) (fun j σ H' => Same H68 H' ∧ ∃ (Lj : Addr) (yj : List Str) (v15 : Option V), σ = [some (.ref a), some (.ref r), some (.int (0 + (i0 : Int))), some (.ref pd), some (.ref po), some (.ref pa), some (.ref pb), some (.ref pp), v8, some (.str (whyS d2)), some (.ref pw), v11, some (.ref D), some (.ref LO), some (.ref Lj), v15, v16, v17, v18, v19, v20, v21] ∧
                      H' Lj = some (.lst (yj.map V.str)) ∧ (∀ y ∈ yj, inV (.str y) rulesV = false) ∧ yj.length = 7 + 5 * j)
                    ⟨Same.refl H68, Lo, ys, _, rfl, eLo8, hys, hyl⟩ (fun j σ H' _ ⟨s, _⟩ => SqL.of (s _ _ eLr)) ?_ ?_
                  · rintro j x σ Hj hx ⟨sj, Lj, yj, v15, rfl, eLj, hyj, hylj⟩
                    obtain ⟨rl, rfl, hrl⟩ : ∃ rl : Str, x = .str rl ∧ rl ∈ five := by
                      match j, hx with
                      | 0, hx => cases hx; exact ⟨_, rfl, by decide +kernel⟩
                      | 1, hx => cases hx; exact ⟨_, rfl, by decide +kernel⟩
                      | 2, hx => cases hx; exact ⟨_, rfl, by decide +kernel⟩
                      | 3, hx => cases hx; exact ⟨_, rfl, by decide +kernel⟩
                      | 4, hx => cases hx; exact ⟨_, rfl, by decide +kernel⟩
                      | j + 5, hx => cases hx
                    have hj5 : j < 5 := (List.getElem?_eq_some_iff.mp hx).1
                    obtain ⟨rl10, hn5⟩ := five_words rl hrl
                    have l1 : (Str.ofString "s").length = 1 := by decide +kernel
                    have l2 : (Str.ofString " ").length = 1 := by decide +kernel
                    have l3 : (Str.ofString "a").length = 1 := by decide +kernel
                    refine ⟨_, rfl, _, rfl, rl, _, rfl, rfl, by omega, _, rfl, rl, _, rfl, rfl, by omega, _, rfl, _, rl, rfl, rfl, by omega, _, rfl, _, rfl, _, rfl, rl, rfl, by omega, _, rfl, _, rfl, rl, rfl, by omega, (by show 5 ≤ sizeLine; decide), fun L5 hL5 => ?_⟩
                    have s70 := same_new (o := .lst [.str (rl ++ Str.ofString "s"), .str (rl ++ Str.ofString " "), .str (Str.ofString "a" ++ rl), .str (cutS rl none (some (-1))), .str (cutS rl (some 1) none)]) hL5
                    refine ⟨Lj, L5, _, _, rfl, rfl, s70 _ _ eLj, upd_same, (by rw [List.length_map]; show _ + 5 ≤ sizeLine; omega), fun L6 hL6 => ?_⟩
                    have s71 := s70.trans (same_new (o := .lst (yj.map V.str ++ [.str (rl ++ Str.ofString "s"), .str (rl ++ Str.ofString " "), .str (Str.ofString "a" ++ rl), .str (cutS rl none (some (-1))), .str (cutS rl (some 1) none)])) hL6)
                    refine ⟨sj.trans s71, L6, yj ++ near5 rl, _, rfl, ?_, ?_, ?_⟩
                    · rw [upd_same, List.map_append]
                      rfl
                    · intro y hy
                      rcases List.mem_append.mp hy with h | h
                      · exact hyj y h
                      · exact hn5 y h
                    · rw [List.length_append, hylj]
                      show _ + 5 = _
                      omega
                  · rintro σ Hz ⟨sz, Lj, yj, v15, rfl, eLj, hyj, hylj⟩
                    have hRz := hR68.but sz
                    have Tz := T68.ext sz
                    have dpdz := dp_wo (dp_rr (rr_same (r := r) sz) dpd68)
                    refine ⟨_, rfl, Lj, rfl, ⟨_, SqL.of eLj⟩, fun D3 hD3 => ?_⟩
                    have s72 := same_new (o := .lst []) hD3
                    refine lc_list (K := K) (a := Lj) (xs := yj.map V.str) (fun i H' => ExtN Hz H' ∧ Tabs T H' ∧ H' D3 = some (.lst [])) ⟨.of s72, Tz.ext s72, upd_same⟩ (fun i H' _ ⟨e, _, _⟩ => SqL.of (lst_e e eLj)) ?_ ?_
                    · rintro i x H' hx ⟨e', t', eD⟩
                      rw [List.getElem?_map] at hx
                      cases ef : yj[i]? with
                      | none => rw [ef] at hx; cases hx
                      | some y =>
                        rw [ef] at hx
                        obtain rfl := (Option.some.inj hx).symm
                        refine ⟨rfl, ?_⟩
                        refine ⟨t', fun H60 s60 T60 => ⟨some .rule, ⟨_, rfl, Nat.zero_le _, fun Le hLe => ⟨_, rfl, .ref pd, .ref Le, y, d, [], rfl, dp_same (s60.trans (same_new hLe)) (dp_nt (dp_e e' dpdz)), .lst (SqL.of upd_same) .nil, by decide, refu_good g (fun j k hk => by cases hk) ⟨hyj y (List.mem_of_getElem? ef), .rule, rfl, ⟨rfl, rfl⟩, (ntH_sub H60).trans (same_new hLe), T60.ext (same_new hLe)⟩⟩⟩, fun H63 p s63 t63 hp => ?_⟩⟩
                        refine ⟨(by show 2 ≤ sizeLine; decide), fun q hq => ?_⟩
                        have sq := same_new (o := HO.tup [.str (Str.ofString "rule"), .non]) hq
                        refine ne_word (o := some .rule) trivial (SqT.of (sq _ _ hp)) (SqT.of upd_same) ⟨_, rfl, iteF ?_⟩
                        have e63 := (ext_of s60).trans ((ext_of s63).trans (.of sq))
                        exact ⟨e'.trans e63, t63.ext sq, lst_e e63 eD⟩
                    · rintro H' ⟨e', t', eD⟩
                      refine ⟨Nat.zero_le _, fun e2 he2 => ?_⟩
                      have s73 := same_new (o := .lst []) he2
                      refine ⟨.list [], .list [], .lst (SqL.of (s73 _ _ eD)) .nil, .lst (SqL.of upd_same) .nil, rfl, rfl, _, rfl, iteF ?_⟩
                      exact ⟨(row_e hRz e').but s73, t'.ext s73, _, _, _, _, _, _, _, _, _, _, _, _, _, _, _, _, _, _, _, _, rfl⟩
    · rintro σ H0 ⟨hR, hT, v2, v3, v4, v5, v6, v7, v8, v9, v10, v11, v12, v13, v14, v15, v16, v17, v18, v19, v20, v21, rfl⟩
      exact q _
end
end Ag

namespace Ag
open PySem PySem.Spec PyProof.Rows L2 LamX NdefX
/-! ### from the head's facts -/
section
variable {P : Program} {w : World} {K : PySem.W.Frag} {mg : Str → Option Value} {base : Heap}
theorem fun_of {x q : Str} {st : Stmt} {f : Addr} {fd : FuncData} (h : FunD K x q (defArgs st) (defBody st) (defScope st) [] [] f fd) : Fun K x q st f fd := by
  obtain ⟨⟨oc, od, dV, kV, doc, pm, an, cdv, ct, osl, rfl, lk, hcd, hD, hK⟩, kp⟩ := h
  rcases hD with ⟨_, rfl⟩ | ⟨e, _⟩
  · exact ⟨⟨oc, od, kV, doc, pm, an, cdv, ct, osl, rfl, lk, hcd⟩, kp⟩
  · exact absurd rfl e
theorem funC_of {x q : Str} {st : Stmt} {p : Str × Option Str} {fd : FuncData} (h : FunD K x q (defArgs st) (defBody st) (defScope st) [] [] (He.fAd K p) fd) : FunC K x q st (He.fAd K p) fd (He.cT K p).1 := by
  obtain ⟨⟨oc, od, dV, kV, doc, pm, an, cdv, ct, osl, rfl, lk, hcd, hD, hK⟩, kp⟩ := h
  rcases hD with ⟨_, rfl⟩ | ⟨e, _⟩
  · obtain ⟨c, rfl⟩ := He.codeIn_ref hcd
    have e : (He.cT K p).1 = c := He.codeOf_eq lk rfl
    rw [e]
    exact ⟨⟨oc, od, kV, doc, pm, an, ct, osl, rfl, lk, hcd⟩, kp⟩
  · exact absurd rfl e
/-- a promise that asks for a list frozen serves where the list is tracked as one that may change -/
theorem fnOk_frozen {k : Nat} {f : Addr} {fd : FuncData} {ps : List Str} {sp sp' : Sp} (F : FnOk P w K mg base CX0 k f fd ps sp) (hlen : ∀ vs H Q E, sp' vs H Q E → vs.length = ps.length)
    (hs : ∀ vs H Q E, sp' vs H Q E → sp vs H Q E ∨ ∃ a ys, H a = some (.lst ys) ∧ ∀ o, sp vs (upd H a (.frz o (.lst ys))) Q E) : FnOk P w K mg base CX0 k f fd ps sp' := by
  refine ⟨hlen, fun A outer s H args us vs Q E hr e0 hb r h => ?_⟩
  rcases hs vs H Q E h with h | ⟨a, ys, ha, h⟩
  · exact F.run A outer s H args us vs Q E hr e0 hb r h
  · obtain ⟨hz, its, n, rv, ho⟩ := (show ObjOk P w H s.heap a (.lst ys) from e0.hok a _ ha)
    have ne : ∀ b, H b = none → b ≠ a := fun b e z => by rw [z, ha] at e; cases e
    have at_ : ∀ b, b ≠ a → upd H a (.frz { cls := .type "list", data := .seq its.toArray n } (.lst ys)) b = H b := fun b n => upd_ne n
    have own : ∀ b y, H b = some (.own y) → upd H a (.frz { cls := .type "list", data := .seq its.toArray n } (.lst ys)) b = some (.own y) := fun b y e => by
      rw [at_ b fun z => by rw [z, ha] at e; cases e]
      exact e
    have tup : ∀ b xs, H b = some (.tup xs) → upd H a (.frz { cls := .type "list", data := .seq its.toArray n } (.lst ys)) b = some (.tup xs) := fun b y e => by
      rw [at_ b fun z => by rw [z, ha] at e; cases e]
      exact e
    have hok : HOk P w (upd H a (.frz { cls := .type "list", data := .seq its.toArray n } (.lst ys))) s.heap := fun b o e => by
      by_cases z : b = a
      · subst z
        rw [upd_same] at e
        cases e
        exact ⟨ho, hz, its, n, rv, ho⟩
      · rw [at_ b z] at e
        exact (e0.hok b o e).stay (fun _ _ _ q => q) (fun c q => own c b q) tup
    have e1 : Env0 P w K mg base A outer s (upd H a (.frz { cls := .type "list", data := .seq its.toArray n } (.lst ys))) :=
      ⟨e0.frames, e0.mod, fun b o q => ⟨(e0.bs b o q).1, by rw [at_ b (ne b (e0.bs b o q).2)]; exact (e0.bs b o q).2⟩, e0.bsz, e0.funs, fun b hb => by rw [at_ b (ne b (e0.frf b hb))]; exact e0.frf b hb, hok, e0.bare⟩
    refine codeAny_mono (F.run A outer s _ args us vs Q E hr e1 hb r (h _)) fun r s' hq => ?_
    cases r with
    | error e => exact hq
    | ok fl =>
      cases fl with
      | next => exact hq
      | brk => exact hq
      | cont => exact hq
      | ret u =>
        obtain ⟨v, H', os, bare, un, hok', rv', q⟩ := hq
        refine ⟨v, H', os, bare, ⟨fun b o e n nf nx => un.keep b o e (by rw [at_ b (ne b n)]; exact n) nf nx, fun b o e n nf nx => un.slot b o e (by rw [at_ b (ne b n)]; exact n) nf nx, fun b o e n nx => un.free b o e (by rw [at_ b (ne b n)]; exact n) nx, un.there, fun b xs e => un.tups b xs (tup b xs e), fun b o u e => un.frzs b o u ?_, fun b ps e => un.tbls b ps ?_⟩, hok', rv', q⟩
        · rw [at_ b fun z => by rw [z, ha] at e; cases e]
          exact e
        · rw [at_ b fun z => by rw [z, ha] at e; cases e]
          exact e
end
end Ag

namespace Ag
open PySem PySem.Spec PyProof.Rows L2 LamX NdefX
/-! ### an own hook: the places looked at are given -/
section
variable {fa : List He.Fa} {fn : List He.DefD} {tf : List He.Defn} {ex : PySem.W.Frag → Bool} {sel : (Addr → Option Obj) → List Addr}
def obsA (fa : List He.Fa) (fn : List He.DefD) (tf : List He.Defn) (ex : PySem.W.Frag → Bool) (sel : (Addr → Option Obj) → List Addr) (g : Addr → Option Obj) : He.AlX := (He.obsT fa fn [] (He.frT g (sel g)), ex (He.frT g (sel g)) && He.tabsB g tf (He.frT g (sel g)))
theorem saysA {w : World} {h : Heap} {K : PySem.W.Frag} (hK : ∀ b o, h.get? b = some o → He.emptyTab o = true → K.lookup b = none) (e1 : He.obsT fa fn [] K = He.valT fn [] w) (e2 : (ex K && He.tabsB h.get? tf K) = true) : He.SaysX fa fn [] tf ex w h K := by
  obtain ⟨x1, x2⟩ := Bool.and_eq_true_iff.mp e2
  have tk : ∀ t ∈ tf, PySem.W.codeHdIn K (He.cT K t).1 (He.cT K t).2 = true ∧ ∃ ob, h.get? (He.cT K t).2 = some ob ∧ He.emptyTab ob = true := fun t ht => by
    obtain ⟨y1, y2⟩ := Bool.and_eq_true_iff.mp (List.all_eq_true.mp x2 t ht)
    refine ⟨y1, ?_⟩
    revert y2
    generalize h.get? (He.cT K t).2 = oo
    intro y2
    match oo, y2 with
    | some ob, y2 => exact ⟨ob, rfl, y2⟩
    | none, y2 => cases y2
  refine ⟨e1, x1, fun t ht => (tk t ht).1, fun t ht => ?_, fun t ht => ?_⟩
  · obtain ⟨_, ob, z1, z2⟩ := tk t ht
    exact hK _ _ z1 z2
  · obtain ⟨_, ob, z1, z2⟩ := tk t ht
    rw [z1, He.emptyTab_eq z2]
theorem saysA_of {w : World} {h : Heap} (e : obsA fa fn tf ex sel h.get? = He.valX fn [] w) : He.SaysX fa fn [] tf ex w h (He.frT h.get? (sel h.get?)) :=
  saysA (fun _ _ z1 z2 => He.frT_none z1 z2) (congrArg (fun z : He.AlX => z.1) e) (congrArg (fun z : He.AlX => z.2) e)
def hookA (fa : List He.Fa) (fn : List He.DefD) (tf : List He.Defn) (ex : PySem.W.Frag → Bool) (sel : (Addr → Option Obj) → List Addr) : PySem.W.Hook where
  α := He.AlX
  obs := fun s => obsA fa fn tf ex sel s.heap.get?
  val := fun w => He.valX fn [] w
  says := fun w h => ∃ K : PySem.W.Frag, K.In h ∧ He.SaysX fa fn [] tf ex w h K
  of := fun _ _ e => ⟨_, He.frT_in, saysA_of e⟩
  keeps := fun _ _ _ ⟨K, hK, c⟩ k => ⟨K, PySem.W.Frag.In.keeps hK k, ⟨c.t, c.more, c.hd, c.out, fun p hp => k _ _ (c.empty p hp)⟩⟩
theorem obA_eq (s : PySem.W.SharedT) : obsA fa fn tf ex sel (HandSHeadRun.getT s) = (hookA fa fn tf ex sel).obs s.abs := by
  have e : HandSHeadRun.getT s = s.abs.heap.get? := funext fun a => HandSHeadRun.getT_eq s a
  rw [e]
  rfl
end
end Ag

set_option maxHeartbeats 0
namespace Ag
open PySem PySem.Spec PyProof.Rows L2 LamX NdefX
def d_need_disk : He.DefD := ⟨("need_disk", none), "need_disk", "need_disk", defArgs s_need_disk, defBody s_need_disk, defScope s_need_disk, [], []⟩
def d_need_asks : He.DefD := ⟨("need_asks", none), "need_asks", "need_asks", defArgs s_need_asks, defBody s_need_asks, defScope s_need_asks, [], []⟩
def d_need_few : He.DefD := ⟨("need_few", none), "need_few", "need_few", defArgs s_need_few, defBody s_need_few, defScope s_need_few, [], []⟩
def d_need_rule : He.DefD := ⟨("need_rule", none), "need_rule", "need_rule", defArgs s_need_rule, defBody s_need_rule, defScope s_need_rule, [], []⟩
def d_need_order : He.DefD := ⟨("need_order", none), "need_order", "need_order", defArgs s_need_order, defBody s_need_order, defScope s_need_order, [], []⟩
def d_by_order : He.DefD := ⟨("by_order", none), "by_order", "by_order", defArgs s_by_order, defBody s_by_order, defScope s_by_order, [], []⟩
def d_by_rule : He.DefD := ⟨("by_rule", none), "by_rule", "by_rule", defArgs s_by_rule, defBody s_by_rule, defScope s_by_rule, [], []⟩
def d_least_sum : He.DefD := ⟨("least_sum", none), "least_sum", "least_sum", defArgs s_least_sum, defBody s_least_sum, defScope s_least_sum, [], []⟩
def d_front : He.DefD := ⟨("front", none), "front", "front", defArgs s_front, defBody s_front, defScope s_front, [], []⟩
def d_read : He.DefD := ⟨("read", none), "read", "read", defArgs s_read, defBody s_read, defScope s_read, [], []⟩
def d_written : He.DefD := ⟨("written", none), "written", "written", defArgs s_written, defBody s_written, defScope s_written, [], []⟩
def d_served : He.DefD := ⟨("served", none), "served", "served", defArgs s_served, defBody s_served, defScope s_served, [], []⟩
def d_rows_by : He.DefD := ⟨("rows_by", none), "rows_by", "rows_by", defArgs s_rows_by, defBody s_rows_by, defScope s_rows_by, [], []⟩
def d_costs_of : He.DefD := ⟨("costs_of", none), "costs_of", "costs_of", defArgs s_costs_of, defBody s_costs_of, defScope s_costs_of, [], []⟩
def d_held : He.DefD := ⟨("held", none), "held", "held", defArgs s_held, defBody s_held, defScope s_held, [], []⟩
def d__law_taken : He.DefD := ⟨("_law_taken", none), "_law_taken", "_law_taken", defArgs s_l_taken, defBody s_l_taken, defScope s_l_taken, [], []⟩
def d__law_disk : He.DefD := ⟨("_law_disk", none), "_law_disk", "_law_disk", defArgs s_l_disk, defBody s_l_disk, defScope s_l_disk, [], []⟩
def d__law_asks : He.DefD := ⟨("_law_asks", none), "_law_asks", "_law_asks", defArgs s_l_asks, defBody s_l_asks, defScope s_l_asks, [], []⟩
def d__law_odd_disk : He.DefD := ⟨("_law_odd_disk", none), "_law_odd_disk", "_law_odd_disk", defArgs s_l_odd_disk, defBody s_l_odd_disk, defScope s_l_odd_disk, [], []⟩
def d__law_odd_ask : He.DefD := ⟨("_law_odd_ask", none), "_law_odd_ask", "_law_odd_ask", defArgs s_l_odd_ask, defBody s_l_odd_ask, defScope s_l_odd_ask, [], []⟩
def d__law_why : He.DefD := ⟨("_law_why", none), "_law_why", "_law_why", defArgs s_l_why, defBody s_l_why, defScope s_l_why, [], []⟩
def d__law_word : He.DefD := ⟨("_law_word", none), "_law_word", "_law_word", defArgs s_l_word, defBody s_l_word, defScope s_l_word, [], []⟩
def d__law_works : He.DefD := ⟨("_law_works", none), "_law_works", "_law_works", defArgs s_l_works, defBody s_l_works, defScope s_l_works, [], []⟩
def d_law : He.DefD := ⟨("law", none), "law", "law", defArgs s_law, defBody s_law, defScope s_law, [], []⟩
def d_A___init__ : He.DefD := ⟨("Arm", some "__init__"), "__init__", "Arm.__init__", defArgs s_init, defBody s_init, defScope s_init, [], []⟩
def d_A_waiting : He.DefD := ⟨("Arm", some "waiting"), "waiting", "Arm.waiting", defArgs s_waiting, defBody s_waiting, defScope s_waiting, [], []⟩
def d_A_far : He.DefD := ⟨("Arm", some "far"), "far", "Arm.far", defArgs s_far, defBody s_far, defScope s_far, [], []⟩
def d_A_first_of : He.DefD := ⟨("Arm", some "first_of"), "first_of", "Arm.first_of", defArgs s_first_of, defBody s_first_of, defScope s_first_of, [], []⟩
def d_A_swept : He.DefD := ⟨("Arm", some "swept"), "swept", "Arm.swept", defArgs s_swept, defBody s_swept, defScope s_swept, [], []⟩
def d_A_looped : He.DefD := ⟨("Arm", some "looped"), "looped", "Arm.looped", defArgs s_looped, defBody s_looped, defScope s_looped, [], []⟩
def d_A_chosen : He.DefD := ⟨("Arm", some "chosen"), "chosen", "Arm.chosen", defArgs s_chosen, defBody s_chosen, defScope s_chosen, [], []⟩
def d_A_serve : He.DefD := ⟨("Arm", some "serve"), "serve", "Arm.serve", defArgs s_serve, defBody s_serve, defScope s_serve, [], []⟩
def d_I_BadAsk : He.DefD := ⟨("BadAsk", some "__init__"), "__init__", "BadAsk.__init__", defArgs s_badask, defBody s_badask, defScope s_badask, [], []⟩
def d_I_BadDisk : He.DefD := ⟨("BadDisk", some "__init__"), "__init__", "BadDisk.__init__", defArgs s_baddisk, defBody s_baddisk, defScope s_baddisk, [], []⟩
def fnL : List He.DefD := [d_need_disk, d_need_asks, d_need_few, d_need_rule, d_need_order, d_by_order, d_by_rule, d_least_sum, d_front, d_read, d_written, d_served, d_rows_by, d_costs_of, d_held, d__law_taken, d__law_disk, d__law_asks, d__law_odd_disk, d__law_odd_ask, d__law_why, d__law_word, d__law_works, d_law, d_A___init__, d_A_waiting, d_A_far, d_A_first_of, d_A_swept, d_A_looped, d_A_chosen, d_A_serve, d_I_BadAsk, d_I_BadDisk]
def faL : List He.Fa := [.glo "need_disk", .glo "need_asks", .glo "need_few", .glo "need_rule", .glo "need_order", .glo "by_order", .glo "by_rule", .glo "least_sum", .glo "front", .glo "read", .glo "written", .glo "served", .glo "rows_by", .glo "costs_of", .glo "held", .glo "_law_taken", .glo "_law_disk", .glo "_law_asks", .glo "_law_odd_disk", .glo "_law_odd_ask", .glo "_law_why", .glo "_law_word", .glo "_law_works", .glo "law", .glo "ArmError", .glo "BadDisk", .glo "BadAsk", .glo "BadRule", .glo "BadOrder", .glo "TooMany", .glo "BadText", .glo "Arm", .glo "RULES", .cls "Arm", .mkr "Arm", .free "ValueError", .free "abs", .free "int", .free "isinstance", .free "len", .free "list", .free "max", .free "min", .free "range", .free "sorted", .free "str", .free "sum", .int "MOST_ASKS" 40, .int "MOST_COME" 999, .int "MOST_OF_ALL" 6, .int "MOST_PACE" 4, .int "MOST_SECTORS" 16, .int "MOST_TRACKS" 64, .meth "Arm" "waiting", .meth "Arm" "far", .meth "Arm" "first_of", .meth "Arm" "swept", .meth "Arm" "looped", .meth "Arm" "chosen", .meth "Arm" "serve", .noat "Arm" "disk", .noat "Arm" "asks", .noat "Arm" "now", .noat "Arm" "here", .noat "Arm" "up", .noat "Arm" "left"]
def tfL : List He.Defn := [("Arm", some "first_of"), ("Arm", some "swept"), ("Arm", some "looped"), ("Arm", some "chosen"), ("_law_works", none), ("law", none)]
abbrev RR : PySem.W.OpenRow := PySem.W.OpenLaw.row PySem.Challenge.rw_armorder_k01_disks_and_asks_refused
def rulesD : List He.Dv := [.str "first", .str "near", .str "soon", .str "sweep", .str "loop"]
def c6 (K : PySem.W.Frag) : Cls6 := ⟨(He.ga K "BadAsk"), (He.ga K "BadDisk"), (He.ga K "BadOrder"), (He.ga K "BadRule"), (He.ga K "BadText"), (He.ga K "TooMany")⟩
def errB (K : PySem.W.Frag) (x f : Str) : Bool := oexB K (He.ga K x) && (decide (PySem.W.findIn K (.ref (He.ga K x)) "__init__" = some (some (.ref (He.fAd K (x, some "__init__"))))) && (decide (PySem.W.typeIn K (.ref (He.fAd K (x, some "__init__"))) = some (.type "function")) && decide (PySem.W.findIn K (.ref (He.ga K x)) f = some none)))
theorem errB_ok {K : PySem.W.Frag} {mg : Str → Option Value} {x f : Str} (m : mg x = some (.ref (He.ga K x))) (h : errB K x f = true) : ErrC K mg x f (He.ga K x) (He.fAd K (x, some "__init__")) := by
  obtain ⟨h1, h⟩ := Bool.and_eq_true_iff.mp h
  obtain ⟨h2, h⟩ := Bool.and_eq_true_iff.mp h
  obtain ⟨h3, h4⟩ := Bool.and_eq_true_iff.mp h
  exact ⟨m, oexB_ok h1, of_decide_eq_true h2, of_decide_eq_true h3, of_decide_eq_true h4⟩
def wB (K : PySem.W.Frag) (CA : Addr) (c : Cls6) (C : Addr) (i : Nat) : Bool := excXB K C && (decide (PySem.W.exmOne K (.ref C) (.ref CA) = some true) && (decide (PySem.W.kitOne K (.ref C) (.ref c.B) = some (decide (i = 0))) && (decide (PySem.W.kitOne K (.ref C) (.ref c.D) = some (decide (i = 1))) && (decide (PySem.W.kitOne K (.ref C) (.ref c.O) = some (decide (i = 2))) &&
  (decide (PySem.W.kitOne K (.ref C) (.ref c.R) = some (decide (i = 3))) && (decide (PySem.W.kitOne K (.ref C) (.ref c.T) = some (decide (i = 4))) && (decide (PySem.W.kitOne K (.ref C) (.ref c.M) = some (decide (i = 5))) && decide (PySem.W.kitOne K (.ref C) (.type "ValueError") = some true))))))))
theorem wB_ok {K : PySem.W.Frag} {CA : Addr} {c : Cls6} {C : Addr} {i : Nat} (h : wB K CA c C i = true) : ErrW K CA c C i := by
  obtain ⟨h1, h⟩ := Bool.and_eq_true_iff.mp h
  obtain ⟨h2, h⟩ := Bool.and_eq_true_iff.mp h
  obtain ⟨h3, h⟩ := Bool.and_eq_true_iff.mp h
  obtain ⟨h4, h⟩ := Bool.and_eq_true_iff.mp h
  obtain ⟨h5, h⟩ := Bool.and_eq_true_iff.mp h
  obtain ⟨h6, h⟩ := Bool.and_eq_true_iff.mp h
  obtain ⟨h7, h⟩ := Bool.and_eq_true_iff.mp h
  obtain ⟨h8, h9⟩ := Bool.and_eq_true_iff.mp h
  exact ⟨excXB_ok h1, of_decide_eq_true h2, of_decide_eq_true h3, of_decide_eq_true h4, of_decide_eq_true h5, of_decide_eq_true h6, of_decide_eq_true h7, of_decide_eq_true h8, of_decide_eq_true h9⟩
def fB (K : PySem.W.Frag) (C : Addr) (f : Str) : Bool := xfB K C && decide (PySem.W.findIn K (.ref C) f = some none)
theorem fB_ok {K : PySem.W.Frag} {C : Addr} {f : Str} (h : fB K C f = true) : FldW K C f := by
  obtain ⟨h1, h2⟩ := Bool.and_eq_true_iff.mp h
  exact ⟨xfB_ok h1, of_decide_eq_true h2⟩
def ownB (K : PySem.W.Frag) (C : Addr) : Bool := PySem.W.excIn K C [.type "ValueError", .type "Exception", .type "BaseException", .type "object"] "ValueError.__new__" && (PySem.W.keepIn K (.ref C) && (decide (PySem.W.subIn K (.ref C) (.type "BaseException") = some true) && decide (PySem.W.typeIn K (.ref C) = some (.type "type"))))
theorem ownB_ok {K : PySem.W.Frag} {mg : Str → Option Value} {x : Str} (m : mg x = some (.ref (He.ga K x))) (h : ownB K (He.ga K x) = true) : OwnC K mg x (He.ga K x) := by
  obtain ⟨h1, h⟩ := Bool.and_eq_true_iff.mp h
  obtain ⟨h2, h⟩ := Bool.and_eq_true_iff.mp h
  obtain ⟨h3, h4⟩ := Bool.and_eq_true_iff.mp h
  exact ⟨h1, m, h2, of_decide_eq_true h3, of_decide_eq_true h4⟩
def exL : PySem.W.Frag → Bool := fun K => He.tupB K "RULES" rulesD && (decide ((tfL.map fun p => (He.cT K p).2).Nodup) && (cinitB K (He.ga K "ArmError") && (errB K "BadAsk" "number" && (errB K "BadDisk" "word" && (ownB K (He.ga K "BadOrder") && (ownB K (He.ga K "BadRule") && (ownB K (He.ga K "TooMany") && (wB K (He.ga K "ArmError") (c6 K) (He.ga K "BadAsk") 0 && (wB K (He.ga K "ArmError") (c6 K) (He.ga K "BadDisk") 1 && (wB K (He.ga K "ArmError") (c6 K) (He.ga K "BadOrder") 2 && (wB K (He.ga K "ArmError") (c6 K) (He.ga K "BadRule") 3 && (wB K (He.ga K "ArmError") (c6 K) (He.ga K "TooMany") 5 && (fB K (He.ga K "BadAsk") "number" && (fB K (He.ga K "BadDisk") "word" && (fB K (He.ga K "BadText") "row")))))))))))))))
/-- the statics' place is looked at beside what the main module reaches -/
def asS (g : Addr → Option Obj) : List Addr := He.asD g 6 ++ [PySem.cStatics]
abbrev hk : PySem.W.Hook := hookA faL fnL tfL exL asS
def ob (s : PySem.W.SharedT) : He.AlX := obsA faL fnL tfL exL asS (HandSHeadRun.getT s)
theorem ob_eq (s : PySem.W.SharedT) : ob s = hk.obs s.abs := obA_eq s
def looseL : List PySem.Str := (["__name__", "ArmError", "BadDisk", "BadAsk", "BadRule", "BadOrder", "TooMany", "BadText", "MOST_TRACKS", "MOST_SECTORS", "MOST_PACE", "MOST_ASKS", "MOST_COME", "need_disk", "need_asks", "served", "served_in", "costs_of", "need_order", "by_order", "RULES", "need_rule", "Arm", "rows_by", "by_rule", "MOST_OF_ALL", "need_few", "orders_from", "all_costs", "front"] : List PySem.Str) ++ (["least_sum", "held", "FIGURES", "MOST_FIGURES", "written", "number_of", "read", "_law_taken", "_law_disk", "_law_asks", "_law_word", "_law_why", "_law_odd_disk", "_law_odd_ask", "_law_works"] : List PySem.Str)
theorem run (w : World) : HandSHeadRun.RunEq RR (PySem.W.view RR.prog [51]) hk ob 4000 looseL w := by
  intro os
  kernel_rfl
theorem one_of {P : Addr} {q : Str} : ∀ {T : List (Addr × Str)}, (T.map (·.1)).Nodup → (P, q) ∈ T → ∀ p ∈ T, p.1 = P → p.2 = q
  | [], _, h => by cases h
  | t :: T, nd, h => fun p hp e => by
    rw [List.map_cons, List.nodup_cons] at nd
    rcases List.mem_cons.mp h with h | h
    · rcases List.mem_cons.mp hp with z | hp
      · rw [z, ← h]
      · exact absurd (List.mem_map.mpr ⟨p, hp, e.trans (by rw [← h])⟩) nd.1
    · rcases List.mem_cons.mp hp with z | hp
      · exact absurd (List.mem_map.mpr ⟨(P, q), h, by rw [← z]; exact e.symm⟩) nd.1
      · exact one_of nd.2 h p hp e
def tabL (K : PySem.W.Frag) : List (Addr × Str) := [((He.cT K ("Arm", some "first_of")).2, lq "Arm.first_of"), ((He.cT K ("Arm", some "swept")).2, lq "Arm.swept"), ((He.cT K ("Arm", some "looped")).2, lq "Arm.looped"), ((He.cT K ("Arm", some "chosen")).2, lq "Arm.chosen"), ((He.cT K ("_law_works", none)).2, lq "_law_works"), ((He.cT K ("law", none)).2, lq "law")]
def sp_lawT (K : PySem.W.Frag) (T : List (Addr × Str)) : Sp := fun vs H Q _ => ∃ (a : Addr) (ns : List Int), vs = [.ref a] ∧ SqL K H a (ns.map V.int) ∧ Tabs T H ∧ ∀ H', Q (.bl true) H'
theorem facts {w : World} {K : PySem.W.Frag} {h : Heap} {mg : Str → Option Value} {f : Addr} (X : K.In h) (G : h.Ns mainGlobals mg) (hfa : mg ("law" : Str) = some (.ref f)) (c : He.SaysX faL fnL [] tfL exL w h K) : LawAtS PySem.Challenge.rw_armorder_k01_disks_and_asks_refused w K CX0 13 63 "_law_script" mg f h := by
  have cD : He.SaysD faL fnL K := congrArg Prod.fst c.t
  have ex2 : (He.tupB K "RULES" rulesD && (decide ((tfL.map fun p => (He.cT K p).2).Nodup) && (cinitB K (He.ga K "ArmError") && (errB K "BadAsk" "number" && (errB K "BadDisk" "word" && (ownB K (He.ga K "BadOrder") && (ownB K (He.ga K "BadRule") && (ownB K (He.ga K "TooMany") && (wB K (He.ga K "ArmError") (c6 K) (He.ga K "BadAsk") 0 && (wB K (He.ga K "ArmError") (c6 K) (He.ga K "BadDisk") 1 && (wB K (He.ga K "ArmError") (c6 K) (He.ga K "BadOrder") 2 && (wB K (He.ga K "ArmError") (c6 K) (He.ga K "BadRule") 3 && (wB K (He.ga K "ArmError") (c6 K) (He.ga K "TooMany") 5 && (fB K (He.ga K "BadAsk") "number" && (fB K (He.ga K "BadDisk") "word" && (fB K (He.ga K "BadText") "row")))))))))))))))) = true := c.more
  obtain ⟨x0, ex2⟩ := Bool.and_eq_true_iff.mp ex2
  obtain ⟨x1, ex2⟩ := Bool.and_eq_true_iff.mp ex2
  obtain ⟨x2, ex2⟩ := Bool.and_eq_true_iff.mp ex2
  obtain ⟨x3, ex2⟩ := Bool.and_eq_true_iff.mp ex2
  obtain ⟨x4, ex2⟩ := Bool.and_eq_true_iff.mp ex2
  obtain ⟨x5, ex2⟩ := Bool.and_eq_true_iff.mp ex2
  obtain ⟨x6, ex2⟩ := Bool.and_eq_true_iff.mp ex2
  obtain ⟨x7, ex2⟩ := Bool.and_eq_true_iff.mp ex2
  obtain ⟨x8, ex2⟩ := Bool.and_eq_true_iff.mp ex2
  obtain ⟨x9, ex2⟩ := Bool.and_eq_true_iff.mp ex2
  obtain ⟨x10, ex2⟩ := Bool.and_eq_true_iff.mp ex2
  obtain ⟨x11, ex2⟩ := Bool.and_eq_true_iff.mp ex2
  obtain ⟨x12, ex2⟩ := Bool.and_eq_true_iff.mp ex2
  obtain ⟨x13, ex2⟩ := Bool.and_eq_true_iff.mp ex2
  obtain ⟨x14, ex2⟩ := Bool.and_eq_true_iff.mp ex2
  have x15 := ex2
  have hR : ∀ H, SqT K H (He.ga K "RULES") rulesV := fun H => He.tupB_ok x0 H
  have hN := of_decide_eq_true x1
  have TA := cinitB_ok x2
  have m_ArmError := He.glo_ok X G (cD.fact 24 (f := .glo "ArmError") rfl)
  have m_BadDisk := He.glo_ok X G (cD.fact 25 (f := .glo "BadDisk") rfl)
  have m_BadAsk := He.glo_ok X G (cD.fact 26 (f := .glo "BadAsk") rfl)
  have m_BadRule := He.glo_ok X G (cD.fact 27 (f := .glo "BadRule") rfl)
  have m_BadOrder := He.glo_ok X G (cD.fact 28 (f := .glo "BadOrder") rfl)
  have m_TooMany := He.glo_ok X G (cD.fact 29 (f := .glo "TooMany") rfl)
  have m_BadText := He.glo_ok X G (cD.fact 30 (f := .glo "BadText") rfl)
  have EB := errB_ok (mg := mg) m_BadAsk x3
  have ED := errB_ok (mg := mg) m_BadDisk x4
  have OO := ownB_ok (mg := mg) m_BadOrder x5
  have OR := ownB_ok (mg := mg) m_BadRule x6
  have OM := ownB_ok (mg := mg) m_TooMany x7
  have WB := wB_ok x8
  have WD := wB_ok x9
  have WO := wB_ok x10
  have WR := wB_ok x11
  have WM := wB_ok x12
  have FB := fB_ok x13
  have FD := fB_ok x14
  have FT := fB_ok x15
  have e := hfa.symm.trans (He.glo_ok X G (cD.fact 23 (f := .glo "law") rfl))
  cases e
  obtain ⟨fd_need_disk, D_need_disk⟩ := cD.def_ 0 (d := d_need_disk) rfl
  have F_need_disk := fun_of (st := s_need_disk) D_need_disk
  have b_need_disk := F_need_disk.binds (ps := ["disk"]) fun _ _ _ _ _ _ us hl => match us, hl with | [_], _ => rfl
  have C_need_disk : Cal K mg "need_disk" (He.fAd K ("need_disk", none)) _ ["disk"] := ⟨He.glo_ok X G (cD.fact 0 (f := .glo "need_disk") rfl), F_need_disk.kp, b_need_disk⟩
  obtain ⟨fd_need_asks, D_need_asks⟩ := cD.def_ 1 (d := d_need_asks) rfl
  have F_need_asks := fun_of (st := s_need_asks) D_need_asks
  have b_need_asks := F_need_asks.binds (ps := ["disk", "asks"]) fun _ _ _ _ _ _ us hl => match us, hl with | [_, _], _ => rfl
  have C_need_asks : Cal K mg "need_asks" (He.fAd K ("need_asks", none)) _ ["disk", "asks"] := ⟨He.glo_ok X G (cD.fact 1 (f := .glo "need_asks") rfl), F_need_asks.kp, b_need_asks⟩
  obtain ⟨fd_need_few, D_need_few⟩ := cD.def_ 2 (d := d_need_few) rfl
  have F_need_few := fun_of (st := s_need_few) D_need_few
  have b_need_few := F_need_few.binds (ps := ["asks"]) fun _ _ _ _ _ _ us hl => match us, hl with | [_], _ => rfl
  have C_need_few : Cal K mg "need_few" (He.fAd K ("need_few", none)) _ ["asks"] := ⟨He.glo_ok X G (cD.fact 2 (f := .glo "need_few") rfl), F_need_few.kp, b_need_few⟩
  obtain ⟨fd_need_rule, D_need_rule⟩ := cD.def_ 3 (d := d_need_rule) rfl
  have F_need_rule := fun_of (st := s_need_rule) D_need_rule
  have b_need_rule := F_need_rule.binds (ps := ["rule"]) fun _ _ _ _ _ _ us hl => match us, hl with | [_], _ => rfl
  have C_need_rule : Cal K mg "need_rule" (He.fAd K ("need_rule", none)) _ ["rule"] := ⟨He.glo_ok X G (cD.fact 3 (f := .glo "need_rule") rfl), F_need_rule.kp, b_need_rule⟩
  obtain ⟨fd_need_order, D_need_order⟩ := cD.def_ 4 (d := d_need_order) rfl
  have F_need_order := fun_of (st := s_need_order) D_need_order
  have b_need_order := F_need_order.binds (ps := ["asks", "order"]) fun _ _ _ _ _ _ us hl => match us, hl with | [_, _], _ => rfl
  have C_need_order : Cal K mg "need_order" (He.fAd K ("need_order", none)) _ ["asks", "order"] := ⟨He.glo_ok X G (cD.fact 4 (f := .glo "need_order") rfl), F_need_order.kp, b_need_order⟩
  obtain ⟨fd_by_order, D_by_order⟩ := cD.def_ 5 (d := d_by_order) rfl
  have F_by_order := fun_of (st := s_by_order) D_by_order
  have b_by_order := F_by_order.binds (ps := ["disk", "asks", "order"]) fun _ _ _ _ _ _ us hl => match us, hl with | [_, _, _], _ => rfl
  have C_by_order : Cal K mg "by_order" (He.fAd K ("by_order", none)) _ ["disk", "asks", "order"] := ⟨He.glo_ok X G (cD.fact 5 (f := .glo "by_order") rfl), F_by_order.kp, b_by_order⟩
  obtain ⟨fd_by_rule, D_by_rule⟩ := cD.def_ 6 (d := d_by_rule) rfl
  have F_by_rule := fun_of (st := s_by_rule) D_by_rule
  have b_by_rule := F_by_rule.binds (ps := ["disk", "asks", "rule"]) fun _ _ _ _ _ _ us hl => match us, hl with | [_, _, _], _ => rfl
  have C_by_rule : Cal K mg "by_rule" (He.fAd K ("by_rule", none)) _ ["disk", "asks", "rule"] := ⟨He.glo_ok X G (cD.fact 6 (f := .glo "by_rule") rfl), F_by_rule.kp, b_by_rule⟩
  obtain ⟨fd_least_sum, D_least_sum⟩ := cD.def_ 7 (d := d_least_sum) rfl
  have F_least_sum := fun_of (st := s_least_sum) D_least_sum
  have b_least_sum := F_least_sum.binds (ps := ["disk", "asks"]) fun _ _ _ _ _ _ us hl => match us, hl with | [_, _], _ => rfl
  have C_least_sum : Cal K mg "least_sum" (He.fAd K ("least_sum", none)) _ ["disk", "asks"] := ⟨He.glo_ok X G (cD.fact 7 (f := .glo "least_sum") rfl), F_least_sum.kp, b_least_sum⟩
  obtain ⟨fd_front, D_front⟩ := cD.def_ 8 (d := d_front) rfl
  have F_front := fun_of (st := s_front) D_front
  have b_front := F_front.binds (ps := ["disk", "asks"]) fun _ _ _ _ _ _ us hl => match us, hl with | [_, _], _ => rfl
  have C_front : Cal K mg "front" (He.fAd K ("front", none)) _ ["disk", "asks"] := ⟨He.glo_ok X G (cD.fact 8 (f := .glo "front") rfl), F_front.kp, b_front⟩
  obtain ⟨fd_read, D_read⟩ := cD.def_ 9 (d := d_read) rfl
  have F_read := fun_of (st := s_read) D_read
  have b_read := F_read.binds (ps := ["disk", "text"]) fun _ _ _ _ _ _ us hl => match us, hl with | [_, _], _ => rfl
  have C_read : Cal K mg "read" (He.fAd K ("read", none)) _ ["disk", "text"] := ⟨He.glo_ok X G (cD.fact 9 (f := .glo "read") rfl), F_read.kp, b_read⟩
  obtain ⟨fd_written, D_written⟩ := cD.def_ 10 (d := d_written) rfl
  have F_written := fun_of (st := s_written) D_written
  have b_written := F_written.binds (ps := ["disk", "asks"]) fun _ _ _ _ _ _ us hl => match us, hl with | [_, _], _ => rfl
  have C_written : Cal K mg "written" (He.fAd K ("written", none)) _ ["disk", "asks"] := ⟨He.glo_ok X G (cD.fact 10 (f := .glo "written") rfl), F_written.kp, b_written⟩
  obtain ⟨fd_served, D_served⟩ := cD.def_ 11 (d := d_served) rfl
  have F_served := fun_of (st := s_served) D_served
  have b_served := F_served.binds (ps := ["disk", "now", "here", "ask"]) fun _ _ _ _ _ _ us hl => match us, hl with | [_, _, _, _], _ => rfl
  have C_served : Cal K mg "served" (He.fAd K ("served", none)) _ ["disk", "now", "here", "ask"] := ⟨He.glo_ok X G (cD.fact 11 (f := .glo "served") rfl), F_served.kp, b_served⟩
  obtain ⟨fd_rows_by, D_rows_by⟩ := cD.def_ 12 (d := d_rows_by) rfl
  have F_rows_by := fun_of (st := s_rows_by) D_rows_by
  have b_rows_by := F_rows_by.binds (ps := ["disk", "asks", "rule"]) fun _ _ _ _ _ _ us hl => match us, hl with | [_, _, _], _ => rfl
  have C_rows_by : Cal K mg "rows_by" (He.fAd K ("rows_by", none)) _ ["disk", "asks", "rule"] := ⟨He.glo_ok X G (cD.fact 12 (f := .glo "rows_by") rfl), F_rows_by.kp, b_rows_by⟩
  obtain ⟨fd_costs_of, D_costs_of⟩ := cD.def_ 13 (d := d_costs_of) rfl
  have F_costs_of := fun_of (st := s_costs_of) D_costs_of
  have b_costs_of := F_costs_of.binds (ps := ["disk", "asks", "rows"]) fun _ _ _ _ _ _ us hl => match us, hl with | [_, _, _], _ => rfl
  have C_costs_of : Cal K mg "costs_of" (He.fAd K ("costs_of", none)) _ ["disk", "asks", "rows"] := ⟨He.glo_ok X G (cD.fact 13 (f := .glo "costs_of") rfl), F_costs_of.kp, b_costs_of⟩
  obtain ⟨fd_held, D_held⟩ := cD.def_ 14 (d := d_held) rfl
  have F_held := fun_of (st := s_held) D_held
  have b_held := F_held.binds (ps := ["disk", "asks"]) fun _ _ _ _ _ _ us hl => match us, hl with | [_, _], _ => rfl
  have C_held : Cal K mg "held" (He.fAd K ("held", none)) _ ["disk", "asks"] := ⟨He.glo_ok X G (cD.fact 14 (f := .glo "held") rfl), F_held.kp, b_held⟩
  obtain ⟨fd__law_taken, D__law_taken⟩ := cD.def_ 15 (d := d__law_taken) rfl
  have F__law_taken := fun_of (st := s_l_taken) D__law_taken
  have b__law_taken := F__law_taken.binds (ps := ["_law_row", "_law_many"]) fun _ _ _ _ _ _ us hl => match us, hl with | [_, _], _ => rfl
  have C__law_taken : Cal K mg "_law_taken" (He.fAd K ("_law_taken", none)) _ ["_law_row", "_law_many"] := ⟨He.glo_ok X G (cD.fact 15 (f := .glo "_law_taken") rfl), F__law_taken.kp, b__law_taken⟩
  obtain ⟨fd__law_disk, D__law_disk⟩ := cD.def_ 16 (d := d__law_disk) rfl
  have F__law_disk := fun_of (st := s_l_disk) D__law_disk
  have b__law_disk := F__law_disk.binds (ps := ["_law_row"]) fun _ _ _ _ _ _ us hl => match us, hl with | [_], _ => rfl
  have C__law_disk : Cal K mg "_law_disk" (He.fAd K ("_law_disk", none)) _ ["_law_row"] := ⟨He.glo_ok X G (cD.fact 16 (f := .glo "_law_disk") rfl), F__law_disk.kp, b__law_disk⟩
  obtain ⟨fd__law_asks, D__law_asks⟩ := cD.def_ 17 (d := d__law_asks) rfl
  have F__law_asks := fun_of (st := s_l_asks) D__law_asks
  have b__law_asks := F__law_asks.binds (ps := ["_law_row", "_law_disk_here", "_law_most"]) fun _ _ _ _ _ _ us hl => match us, hl with | [_, _, _], _ => rfl
  have C__law_asks : Cal K mg "_law_asks" (He.fAd K ("_law_asks", none)) _ ["_law_row", "_law_disk_here", "_law_most"] := ⟨He.glo_ok X G (cD.fact 17 (f := .glo "_law_asks") rfl), F__law_asks.kp, b__law_asks⟩
  obtain ⟨fd__law_odd_disk, D__law_odd_disk⟩ := cD.def_ 18 (d := d__law_odd_disk) rfl
  have F__law_odd_disk := fun_of (st := s_l_odd_disk) D__law_odd_disk
  have b__law_odd_disk := F__law_odd_disk.binds (ps := ["_law_row", "_law_disk_here"]) fun _ _ _ _ _ _ us hl => match us, hl with | [_, _], _ => rfl
  have C__law_odd_disk : Cal K mg "_law_odd_disk" (He.fAd K ("_law_odd_disk", none)) _ ["_law_row", "_law_disk_here"] := ⟨He.glo_ok X G (cD.fact 18 (f := .glo "_law_odd_disk") rfl), F__law_odd_disk.kp, b__law_odd_disk⟩
  obtain ⟨fd__law_odd_ask, D__law_odd_ask⟩ := cD.def_ 19 (d := d__law_odd_ask) rfl
  have F__law_odd_ask := fun_of (st := s_l_odd_ask) D__law_odd_ask
  have b__law_odd_ask := F__law_odd_ask.binds (ps := ["_law_row", "_law_disk_here"]) fun _ _ _ _ _ _ us hl => match us, hl with | [_, _], _ => rfl
  have C__law_odd_ask : Cal K mg "_law_odd_ask" (He.fAd K ("_law_odd_ask", none)) _ ["_law_row", "_law_disk_here"] := ⟨He.glo_ok X G (cD.fact 19 (f := .glo "_law_odd_ask") rfl), F__law_odd_ask.kp, b__law_odd_ask⟩
  obtain ⟨fd__law_why, D__law_why⟩ := cD.def_ 20 (d := d__law_why) rfl
  have F__law_why := fun_of (st := s_l_why) D__law_why
  have b__law_why := F__law_why.binds (ps := ["_law_disk_here"]) fun _ _ _ _ _ _ us hl => match us, hl with | [_], _ => rfl
  have C__law_why : Cal K mg "_law_why" (He.fAd K ("_law_why", none)) _ ["_law_disk_here"] := ⟨He.glo_ok X G (cD.fact 20 (f := .glo "_law_why") rfl), F__law_why.kp, b__law_why⟩
  obtain ⟨fd__law_word, D__law_word⟩ := cD.def_ 21 (d := d__law_word) rfl
  have F__law_word := fun_of (st := s_l_word) D__law_word
  have b__law_word := F__law_word.binds (ps := ["_law_work"]) fun _ _ _ _ _ _ us hl => match us, hl with | [_], _ => rfl
  have C__law_word : Cal K mg "_law_word" (He.fAd K ("_law_word", none)) _ ["_law_work"] := ⟨He.glo_ok X G (cD.fact 21 (f := .glo "_law_word") rfl), F__law_word.kp, b__law_word⟩
  obtain ⟨fd__law_works, D__law_works⟩ := cD.def_ 22 (d := d__law_works) rfl
  have F__law_works := funC_of (st := s_l_works) D__law_works
  have b__law_works := F__law_works.binds (ps := ["_law_disk_here", "_law_asks_here"]) fun _ _ _ _ _ _ us hl => match us, hl with | [_, _], _ => rfl
  have C__law_works : Cal K mg "_law_works" (He.fAd K ("_law_works", none)) _ ["_law_disk_here", "_law_asks_here"] := ⟨He.glo_ok X G (cD.fact 22 (f := .glo "_law_works") rfl), F__law_works.kp, b__law_works⟩
  obtain ⟨fd_law, D_law⟩ := cD.def_ 23 (d := d_law) rfl
  have F_law := funC_of (st := s_law) D_law
  obtain ⟨fd_A___init__, D_A___init__⟩ := cD.def_ 24 (d := d_A___init__) rfl
  have F_A___init__ := fun_of (st := s_init) D_A___init__
  have b_A___init__ := F_A___init__.binds (ps := ["self", "disk", "asks"]) fun _ _ _ _ _ _ us hl => match us, hl with | [_, _, _], _ => rfl
  obtain ⟨fd_A_waiting, D_A_waiting⟩ := cD.def_ 25 (d := d_A_waiting) rfl
  have F_A_waiting := fun_of (st := s_waiting) D_A_waiting
  have b_A_waiting := F_A_waiting.binds (ps := ["self"]) fun _ _ _ _ _ _ us hl => match us, hl with | [_], _ => rfl
  obtain ⟨fd_A_far, D_A_far⟩ := cD.def_ 26 (d := d_A_far) rfl
  have F_A_far := fun_of (st := s_far) D_A_far
  have b_A_far := F_A_far.binds (ps := ["self", "number"]) fun _ _ _ _ _ _ us hl => match us, hl with | [_, _], _ => rfl
  obtain ⟨fd_A_first_of, D_A_first_of⟩ := cD.def_ 27 (d := d_A_first_of) rfl
  have F_A_first_of := funC_of (st := s_first_of) D_A_first_of
  have b_A_first_of := F_A_first_of.binds (ps := ["self", "some", "key"]) fun _ _ _ _ _ _ us hl => match us, hl with | [_, _, _], _ => rfl
  obtain ⟨fd_A_swept, D_A_swept⟩ := cD.def_ 28 (d := d_A_swept) rfl
  have F_A_swept := funC_of (st := s_swept) D_A_swept
  have b_A_swept := F_A_swept.binds (ps := ["self", "some"]) fun _ _ _ _ _ _ us hl => match us, hl with | [_, _], _ => rfl
  obtain ⟨fd_A_looped, D_A_looped⟩ := cD.def_ 29 (d := d_A_looped) rfl
  have F_A_looped := funC_of (st := s_looped) D_A_looped
  have b_A_looped := F_A_looped.binds (ps := ["self", "some"]) fun _ _ _ _ _ _ us hl => match us, hl with | [_, _], _ => rfl
  obtain ⟨fd_A_chosen, D_A_chosen⟩ := cD.def_ 30 (d := d_A_chosen) rfl
  have F_A_chosen := funC_of (st := s_chosen) D_A_chosen
  have b_A_chosen := F_A_chosen.binds (ps := ["self", "rule", "some"]) fun _ _ _ _ _ _ us hl => match us, hl with | [_, _, _], _ => rfl
  obtain ⟨fd_A_serve, D_A_serve⟩ := cD.def_ 31 (d := d_A_serve) rfl
  have F_A_serve := fun_of (st := s_serve) D_A_serve
  have b_A_serve := F_A_serve.binds (ps := ["self", "rule"]) fun _ _ _ _ _ _ us hl => match us, hl with | [_, _], _ => rfl
  obtain ⟨fd_I_BadAsk, D_I_BadAsk⟩ := cD.def_ 32 (d := d_I_BadAsk) rfl
  have F_I_BadAsk := fun_of (st := s_badask) D_I_BadAsk
  have b_I_BadAsk := F_I_BadAsk.binds (ps := ["self", "number"]) fun _ _ _ _ _ _ us hl => match us, hl with | [_, _], _ => rfl
  obtain ⟨fd_I_BadDisk, D_I_BadDisk⟩ := cD.def_ 33 (d := d_I_BadDisk) rfl
  have F_I_BadDisk := fun_of (st := s_baddisk) D_I_BadDisk
  have b_I_BadDisk := F_I_BadDisk.binds (ps := ["self", "word"]) fun _ _ _ _ _ _ us hl => match us, hl with | [_, _], _ => rfl
  have z_ValueError := He.free_ok X G (cD.fact 35 (f := .free "ValueError") rfl)
  have z_abs := He.free_ok X G (cD.fact 36 (f := .free "abs") rfl)
  have z_int := He.free_ok X G (cD.fact 37 (f := .free "int") rfl)
  have z_isinstance := He.free_ok X G (cD.fact 38 (f := .free "isinstance") rfl)
  have z_len := He.free_ok X G (cD.fact 39 (f := .free "len") rfl)
  have z_list := He.free_ok X G (cD.fact 40 (f := .free "list") rfl)
  have z_max := He.free_ok X G (cD.fact 41 (f := .free "max") rfl)
  have z_min := He.free_ok X G (cD.fact 42 (f := .free "min") rfl)
  have z_range := He.free_ok X G (cD.fact 43 (f := .free "range") rfl)
  have z_sorted := He.free_ok X G (cD.fact 44 (f := .free "sorted") rfl)
  have z_str := He.free_ok X G (cD.fact 45 (f := .free "str") rfl)
  have z_sum := He.free_ok X G (cD.fact 46 (f := .free "sum") rfl)
  obtain ⟨t_MOST_ASKS, c_MOST_ASKS⟩ := He.int_ok X G (cD.fact 47 (f := .int "MOST_ASKS" 40) rfl)
  obtain ⟨t_MOST_COME, c_MOST_COME⟩ := He.int_ok X G (cD.fact 48 (f := .int "MOST_COME" 999) rfl)
  obtain ⟨t_MOST_OF_ALL, c_MOST_OF_ALL⟩ := He.int_ok X G (cD.fact 49 (f := .int "MOST_OF_ALL" 6) rfl)
  obtain ⟨t_MOST_PACE, c_MOST_PACE⟩ := He.int_ok X G (cD.fact 50 (f := .int "MOST_PACE" 4) rfl)
  obtain ⟨t_MOST_SECTORS, c_MOST_SECTORS⟩ := He.int_ok X G (cD.fact 51 (f := .int "MOST_SECTORS" 16) rfl)
  obtain ⟨t_MOST_TRACKS, c_MOST_TRACKS⟩ := He.int_ok X G (cD.fact 52 (f := .int "MOST_TRACKS" 64) rfl)
  have m_RULES := He.glo_ok X G (cD.fact 32 (f := .glo "RULES") rfl)
  have m_Arm := He.glo_ok X G (cD.fact 31 (f := .glo "Arm") rfl)
  have AC : ArmC K (He.ga K "Arm") := ⟨He.eqO_ok (cD.fact 31 (f := .glo "Arm") rfl), He.cls_ok (cD.fact 33 (f := .cls "Arm") rfl), He.noat_ok (cD.fact 60 (f := .noat "Arm" "disk") rfl), He.noat_ok (cD.fact 61 (f := .noat "Arm" "asks") rfl), He.noat_ok (cD.fact 62 (f := .noat "Arm" "now") rfl), He.noat_ok (cD.fact 63 (f := .noat "Arm" "here") rfl), He.noat_ok (cD.fact 64 (f := .noat "Arm" "up") rfl), He.noat_ok (cD.fact 65 (f := .noat "Arm" "left") rfl)⟩
  have hArm : ∀ C, ArmC K C → C = He.ga K "Arm" := fun C hC => by
    have e := hC.glo.symm.trans AC.glo
    cases e
    rfl
  have MK := He.mkr_ok (cD.fact 34 (f := .mkr "Arm") rfl)
  have M_waiting0 : ∀ C, ArmC K C → Mt K C "waiting" (He.fAd K ("Arm", some "waiting")) fd_A_waiting ["self"] := fun C hC => by
    have e := hArm C hC
    subst e
    exact ⟨He.meth_ok (cD.fact 53 (f := .meth "Arm" "waiting") rfl), b_A_waiting⟩
  have M_far0 : ∀ C, ArmC K C → Mt K C "far" (He.fAd K ("Arm", some "far")) fd_A_far ["self", "number"] := fun C hC => by
    have e := hArm C hC
    subst e
    exact ⟨He.meth_ok (cD.fact 54 (f := .meth "Arm" "far") rfl), b_A_far⟩
  have M_first_of0 : ∀ C, ArmC K C → Mt K C "first_of" (He.fAd K ("Arm", some "first_of")) fd_A_first_of ["self", "some", "key"] := fun C hC => by
    have e := hArm C hC
    subst e
    exact ⟨He.meth_ok (cD.fact 55 (f := .meth "Arm" "first_of") rfl), b_A_first_of⟩
  have M_swept0 : ∀ C, ArmC K C → Mt K C "swept" (He.fAd K ("Arm", some "swept")) fd_A_swept ["self", "some"] := fun C hC => by
    have e := hArm C hC
    subst e
    exact ⟨He.meth_ok (cD.fact 56 (f := .meth "Arm" "swept") rfl), b_A_swept⟩
  have M_looped0 : ∀ C, ArmC K C → Mt K C "looped" (He.fAd K ("Arm", some "looped")) fd_A_looped ["self", "some"] := fun C hC => by
    have e := hArm C hC
    subst e
    exact ⟨He.meth_ok (cD.fact 57 (f := .meth "Arm" "looped") rfl), b_A_looped⟩
  have M_chosen0 : ∀ C, ArmC K C → Mt K C "chosen" (He.fAd K ("Arm", some "chosen")) fd_A_chosen ["self", "rule", "some"] := fun C hC => by
    have e := hArm C hC
    subst e
    exact ⟨He.meth_ok (cD.fact 58 (f := .meth "Arm" "chosen") rfl), b_A_chosen⟩
  have M_serve0 : ∀ C, ArmC K C → Mt K C "serve" (He.fAd K ("Arm", some "serve")) fd_A_serve ["self", "rule"] := fun C hC => by
    have e := hArm C hC
    subst e
    exact ⟨He.meth_ok (cD.fact 59 (f := .meth "Arm" "serve") rfl), b_A_serve⟩
  refine ⟨fd_law, tfL.map (He.cT K), sp_lawT K (tabL K), fun p hp => ?_, fun p hp => ?_, fun p hp => ?_, fun s u => ?_, fun H a ns hl hb hH hS => ⟨a, ns, rfl, hS, fun p hp => ?_, fun _ => rfl⟩, fun base KB NB hTB => ?_⟩
  · obtain ⟨q, hq, rfl⟩ := List.mem_map.mp hp
    exact c.empty q hq
  · obtain ⟨q, hq, rfl⟩ := List.mem_map.mp hp
    exact c.out q hq
  · obtain ⟨q, hq, rfl⟩ := List.mem_map.mp hp
    exact PySem.W.codeHd_of_K X (c.hd q hq)
  · exact FunD.bindsA (ps := ["_law_script"]) D_law (fun _ _ _ _ _ _ us hl => match us, hl with | [_], _ => rfl) s [u] rfl
  · have hq : ∃ q ∈ tfL, p.1 = (He.cT K q).2 := by
      unfold tabL at hp
      simp only [List.mem_cons, List.not_mem_nil, or_false] at hp
      rcases hp with rfl | rfl | rfl | rfl | rfl | rfl
      · exact ⟨("Arm", some "first_of"), by unfold tfL; simp, rfl⟩
      · exact ⟨("Arm", some "swept"), by unfold tfL; simp, rfl⟩
      · exact ⟨("Arm", some "looped"), by unfold tfL; simp, rfl⟩
      · exact ⟨("Arm", some "chosen"), by unfold tfL; simp, rfl⟩
      · exact ⟨("_law_works", none), by unfold tfL; simp, rfl⟩
      · exact ⟨("law", none), by unfold tfL; simp, rfl⟩
    obtain ⟨q, hq, e⟩ := hq
    exact TabS.nil (by rw [e]; exact hH _ (List.mem_map.mpr ⟨q, hq, rfl⟩))
  · have nd : ((tabL K).map (·.1)).Nodup := hN
    have AT_first_of : ArmT base mg (tabL K) (He.cT K ("Arm", some "first_of")).1 (He.cT K ("Arm", some "first_of")).2 "Arm.first_of" := ⟨hTB _ (List.mem_map.mpr ⟨("Arm", some "first_of"), by unfold tfL; simp, rfl⟩), (.head _), one_of nd (.head _)⟩
    have AT_swept : ArmT base mg (tabL K) (He.cT K ("Arm", some "swept")).1 (He.cT K ("Arm", some "swept")).2 "Arm.swept" := ⟨hTB _ (List.mem_map.mpr ⟨("Arm", some "swept"), by unfold tfL; simp, rfl⟩), (.tail _ (.head _)), one_of nd (.tail _ (.head _))⟩
    have AT_looped : ArmT base mg (tabL K) (He.cT K ("Arm", some "looped")).1 (He.cT K ("Arm", some "looped")).2 "Arm.looped" := ⟨hTB _ (List.mem_map.mpr ⟨("Arm", some "looped"), by unfold tfL; simp, rfl⟩), (.tail _ (.tail _ (.head _))), one_of nd (.tail _ (.tail _ (.head _)))⟩
    have AT_chosen : ArmT base mg (tabL K) (He.cT K ("Arm", some "chosen")).1 (He.cT K ("Arm", some "chosen")).2 "Arm.chosen" := ⟨hTB _ (List.mem_map.mpr ⟨("Arm", some "chosen"), by unfold tfL; simp, rfl⟩), (.tail _ (.tail _ (.tail _ (.head _)))), one_of nd (.tail _ (.tail _ (.tail _ (.head _))))⟩
    have AT__law_works : ArmT base mg (tabL K) (He.cT K ("_law_works", none)).1 (He.cT K ("_law_works", none)).2 "_law_works" := ⟨hTB _ (List.mem_map.mpr ⟨("_law_works", none), by unfold tfL; simp, rfl⟩), (.tail _ (.tail _ (.tail _ (.tail _ (.head _))))), one_of nd (.tail _ (.tail _ (.tail _ (.tail _ (.head _)))))⟩
    have AT_law : ArmT base mg (tabL K) (He.cT K ("law", none)).1 (He.cT K ("law", none)).2 "law" := ⟨hTB _ (List.mem_map.mpr ⟨("law", none), by unfold tfL; simp, rfl⟩), (.tail _ (.tail _ (.tail _ (.tail _ (.tail _ (.head _)))))), one_of nd (.tail _ (.tail _ (.tail _ (.tail _ (.tail _ (.head _))))))⟩
    have G_I_BadAsk := ok_badask (P := (PySem.Challenge.rw_armorder_k01_disks_and_asks_refused).prog) (w := w) (base := base) F_I_BadAsk TA m_ArmError EB.T EB.no
    have G_I_BadDisk := ok_baddisk (P := (PySem.Challenge.rw_armorder_k01_disks_and_asks_refused).prog) (w := w) (base := base) F_I_BadDisk TA m_ArmError ED.T ED.no
    have G_need_disk := ok_need_diskX (P := (PySem.Challenge.rw_armorder_k01_disks_and_asks_refused).prog) (w := w) (base := base) F_need_disk ED G_I_BadDisk b_I_BadDisk c_MOST_TRACKS c_MOST_SECTORS c_MOST_PACE
    have G_need_asks := ok_need_asksX (P := (PySem.Challenge.rw_armorder_k01_disks_and_asks_refused).prog) (w := w) (base := base) F_need_asks EB G_I_BadAsk b_I_BadAsk z_range z_len c_MOST_ASKS c_MOST_COME
    have G_need_few := ok_need_fewX (P := (PySem.Challenge.rw_armorder_k01_disks_and_asks_refused).prog) (w := w) (base := base) F_need_few OM z_len c_MOST_OF_ALL
    have G_need_rule := ok_need_ruleX (P := (PySem.Challenge.rw_armorder_k01_disks_and_asks_refused).prog) (w := w) (base := base) F_need_rule OR m_RULES hR
    have G_need_order := ok_need_orderX (P := (PySem.Challenge.rw_armorder_k01_disks_and_asks_refused).prog) (w := w) (base := base) F_need_order OO z_sorted z_list z_range z_len
    have G_by_order := ok_by_orderX (P := (PySem.Challenge.rw_armorder_k01_disks_and_asks_refused).prog) (w := w) (base := base) F_by_order G_need_disk C_need_disk G_need_asks C_need_asks G_need_order C_need_order
    have G_by_rule := ok_by_ruleX (P := (PySem.Challenge.rw_armorder_k01_disks_and_asks_refused).prog) (w := w) (base := base) F_by_rule G_need_disk C_need_disk G_need_asks C_need_asks G_need_rule C_need_rule
    have G_least_sum := ok_least_sumX (P := (PySem.Challenge.rw_armorder_k01_disks_and_asks_refused).prog) (w := w) (base := base) F_least_sum G_need_disk C_need_disk G_need_asks C_need_asks G_need_few C_need_few
    have G_front := ok_frontX (P := (PySem.Challenge.rw_armorder_k01_disks_and_asks_refused).prog) (w := w) (base := base) F_front G_need_disk C_need_disk G_need_asks C_need_asks G_need_few C_need_few
    have G_read := ok_read_dead (P := (PySem.Challenge.rw_armorder_k01_disks_and_asks_refused).prog) (w := w) (base := base) F_read G_need_disk C_need_disk
    have G_written := ok_writtenX (P := (PySem.Challenge.rw_armorder_k01_disks_and_asks_refused).prog) (w := w) (base := base) F_written G_need_disk C_need_disk G_need_asks C_need_asks z_str
    have G_served0 := fun base : Heap => ok_served (P := (PySem.Challenge.rw_armorder_k01_disks_and_asks_refused).prog) (w := w) (mg := mg) (base := base) F_served z_max z_abs
    have G_served := G_served0 base
    have G_costs_of := ok_costs_of (P := (PySem.Challenge.rw_armorder_k01_disks_and_asks_refused).prog) (w := w) (base := base) F_costs_of z_abs z_max z_sum
    have G_far0 := fun base : Heap => ok_far (P := (PySem.Challenge.rw_armorder_k01_disks_and_asks_refused).prog) (w := w) (mg := mg) (base := base) F_A_far
    have G_swept := ok_swept (P := (PySem.Challenge.rw_armorder_k01_disks_and_asks_refused).prog) (w := w) (base := base) (C := He.ga K "Arm") F_A_swept AT_swept F_A_first_of AT_first_of M_first_of0 G_far0 M_far0 z_min z_abs z_int
    have G_looped := ok_looped (P := (PySem.Challenge.rw_armorder_k01_disks_and_asks_refused).prog) (w := w) (base := base) F_A_looped AT_looped F_A_first_of AT_first_of M_first_of0 G_far0 M_far0 z_min
    have G_chosen := ok_chosen (P := (PySem.Challenge.rw_armorder_k01_disks_and_asks_refused).prog) (w := w) (base := base) F_A_chosen AT_chosen F_A_first_of AT_first_of M_first_of0 G_far0 M_far0 G_swept M_swept0 G_looped M_looped0 G_served0 C_served z_min z_abs
    have G_waiting := ok_waiting (P := (PySem.Challenge.rw_armorder_k01_disks_and_asks_refused).prog) (w := w) (base := base) F_A_waiting z_min
    have G_serve := ok_serve (P := (PySem.Challenge.rw_armorder_k01_disks_and_asks_refused).prog) (w := w) (base := base) F_A_serve G_waiting M_waiting0 G_chosen M_chosen0 G_served C_served
    have G_init := ok_init (P := (PySem.Challenge.rw_armorder_k01_disks_and_asks_refused).prog) (w := w) (base := base) F_A___init__ z_list z_range z_len
    have G_rows_by := ok_rows_by (P := (PySem.Challenge.rw_armorder_k01_disks_and_asks_refused).prog) (w := w) (base := base) F_rows_by AC MK m_Arm G_init b_A___init__ G_serve (M_serve0 _ AC) z_range z_len
    have G_held := ok_heldX (P := (PySem.Challenge.rw_armorder_k01_disks_and_asks_refused).prog) (w := w) (base := base) F_held G_need_disk C_need_disk G_need_asks C_need_asks G_rows_by C_rows_by G_costs_of C_costs_of m_RULES hR
    have G__law_taken := ok_l_taken (P := (PySem.Challenge.rw_armorder_k01_disks_and_asks_refused).prog) (w := w) (base := base) F__law_taken z_len
    have G__law_disk := ok_l_disk (P := (PySem.Challenge.rw_armorder_k01_disks_and_asks_refused).prog) (w := w) (base := base) F__law_disk G__law_taken C__law_taken.m C__law_taken.k C__law_taken.b
    have G__law_asks := ok_l_asks (P := (PySem.Challenge.rw_armorder_k01_disks_and_asks_refused).prog) (w := w) (base := base) F__law_asks G__law_taken C__law_taken.m C__law_taken.k C__law_taken.b z_min z_range
    have G__law_odd_disk := ok_l_odd_disk (P := (PySem.Challenge.rw_armorder_k01_disks_and_asks_refused).prog) (w := w) (base := base) F__law_odd_disk G__law_taken C__law_taken
    have G__law_odd_ask := ok_l_odd_ask (P := (PySem.Challenge.rw_armorder_k01_disks_and_asks_refused).prog) (w := w) (base := base) F__law_odd_ask G__law_taken C__law_taken
    have G__law_why := ok_l_why (P := (PySem.Challenge.rw_armorder_k01_disks_and_asks_refused).prog) (w := w) (base := base) F__law_why z_list z_range
    have G__law_word := ok_l_word (P := (PySem.Challenge.rw_armorder_k01_disks_and_asks_refused).prog) (w := w) (base := base) (k := 10 + 1) (c := (c6 K)) F__law_word b__law_word WB WD WO WR WM FB FD FT m_ArmError m_BadAsk m_BadDisk m_BadOrder m_BadRule m_BadText m_TooMany z_isinstance z_ValueError
    have G__law_works := ok_l_works (P := (PySem.Challenge.rw_armorder_k01_disks_and_asks_refused).prog) (w := w) (base := base) (T := tabL K) F__law_works AT__law_works
    refine fnOk_frozen (ok_law (P := (PySem.Challenge.rw_armorder_k01_disks_and_asks_refused).prog) (w := w) (base := base) (T := tabL K) (c := (c6 K)) F_law AT_law G__law_taken C__law_taken G__law_disk C__law_disk G__law_asks C__law_asks G__law_odd_disk C__law_odd_disk G__law_odd_ask C__law_odd_ask G__law_why C__law_why G__law_works C__law_works G_by_order C_by_order G_by_rule C_by_rule G_least_sum C_least_sum G_front C_front G_held C_held G_written C_written G_read C_read G__law_word C__law_word.m C__law_word.k z_range z_list z_min z_int z_len) (fun vs H Q E hh => ?_) (fun vs H Q E hh => ?_)
    · obtain ⟨a, ns, rfl, _⟩ := hh
      rfl
    · obtain ⟨a, ns, rfl, hS, hT, q⟩ := hh
      rcases hS with (hx | ⟨o, hx⟩) | hx
      · exact .inr ⟨a, _, hx, fun o => ⟨a, ns, rfl, .inl ⟨o, upd_same⟩, tabs_upd hT hx (by intro _ q; cases q) (by intro _ q; cases q), q⟩⟩
      · exact .inl ⟨a, ns, rfl, .inl ⟨o, hx⟩, hT, q⟩
      · exact .inl ⟨a, ns, rfl, .inr hx, hT, q⟩
end Ag
open PySem PySem.W PySem.Calls PyProof.Rows
theorem PySem.Challenge.cw_armorder_k01_disks_and_asks_refused_holds : PySem.Challenge.rw_armorder_k01_disks_and_asks_refused.Holds := by
  w_on; o_law
  refine HandSHeadRun.head_any (r := OpenLaw.row PySem.Challenge.rw_armorder_k01_disks_and_asks_refused) (q := view (OpenLaw.row PySem.Challenge.rw_armorder_k01_disks_and_asks_refused).prog [51]) (H := Ag.hk) (ob := Ag.ob) (M := 4000) (loose := Ag.looseL) (d := HandSHeadRun.topDef (OpenLaw.row PySem.Challenge.rw_armorder_k01_disks_and_asks_refused).prog 51) (kwd := []) Ag.ob_eq
    (by kernel_rfl) (fun s => by kernel_rfl) Ag.run (by kernel_rfl) (by kernel_rfl) (by kernel_rfl) (by rfl) (by first | assumption | decide +kernel) (by decide +kernel) ⟨rfl, rfl, rfl, rfl, rfl, by decide +kernel⟩ ?hw ?hc
  case hw => w_witness2
  case hc =>
    refine LamX.walk_ofTsE (l := PySem.Challenge.rw_armorder_k01_disks_and_asks_refused) (n := 63) (k := 13) (x := "_law_script") (CX := fun _ => L2.CX0) rfl (by decide) (by kernel_rfl) ⟨rfl, by decide, by decide⟩ ?F (fun _ _ _ _ _ z => z)
    intro w mg fa h Y G hmg0
    obtain ⟨K, KX, c⟩ := Y
    have hmg : mg ("law" : PySem.Str) = some (.ref fa) := by
      have e : (HandSHeadRun.topDef (OpenLaw.row PySem.Challenge.rw_armorder_k01_disks_and_asks_refused).prog 51).name = ("law" : PySem.Str) := by kernel_rfl
      rw [← e]
      exact hmg0
    exact ⟨K, KX, Ag.facts KX G hmg c⟩

