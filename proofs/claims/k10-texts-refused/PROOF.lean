import PyProof.Rows.All
import Wide.All
import OpenK.AllK
import Wide.FinOn
import HandS.ForMost
import HandS.SortKw
import HandS.SortInts
import HandS.Conv
import HandS.IsInst
import KE.DataMinMax
import KE.SortData
import HandS.ForExc
import HandS.Comp
import KE.GoesRaise
import KE.KAsSuite
import HandS.ExcInit
import HandS.ExcField
import KE.KExcIs
import HandS.Codes
import HandS.Lambda
import HandS.Nested
import HandS.SetFor
import KE.DataMinKey
import HandS.Head0
import HandS.Head1
import HandS.Head2
import HandS.HeadEnd
import HandS.HeadHook1
import HandS.HeadHook2
import HandS.HeadHook3
import HandS.HeadHook4
import HandS.HeadWalk
import HandS.Deep
import PySem.Challenge.RW_armorder_k10_texts_that_tell_no_asks
set_option Elab.async false
set_option linter.all false
set_option maxRecDepth 100000
set_option maxHeartbeats 4000000

namespace Ag
open PySem PySem.Spec PyProof.Rows L2

/-! ### heaps: what stands, a new thing, a changed thing -/
theorem same_new {H : Hp} {p : Addr} {o : HO} (h : H p = none) : Same H (upd H p o) := fun b x e => by
  rw [upd_ne (ne_of_none e h)]
  exact e
theorem same_upd {G H : Hp} {p : Addr} {o : HO} (s : Same G H) (h : G p = none) : Same G (upd H p o) := fun b x e => by
  rw [upd_ne (ne_of_none e h)]
  exact s b x e
theorem same_sqt {K : PySem.W.Frag} {H H' : Hp} {a : Addr} {xs : List V} (e : Same H H') (h : SqT K H a xs) : SqT K H' a xs := by
  rcases h with (h | ⟨o, h⟩) | h
  · exact .inl (.inl (e _ _ h))
  · exact .inl (.inr ⟨o, e _ _ h⟩)
  · exact .inr h
mutual
theorem dp_same {K : PySem.W.Frag} {H H' : Hp} (e : Same H H') : ∀ {d : PyData} {v : V}, Dp K H v d → Dp K H' v d
  | .none, _, h => by cases h; exact .non
  | .bool _, _, h => by cases h; exact .bl _
  | .int _, _, h => by cases h; exact .int _
  | .str _, _, h => by cases h; exact .str _
  | .list _, _, h => by
    cases h with
    | lst hs ha => exact .lst (e.seq hs) (dpa_same e ha)
  | .tuple _, _, h => by
    cases h with
    | tup hs ha => exact .tup (same_sqt e hs) (dpa_same e ha)
  | .dict _, _, h => by cases h
theorem dpa_same {K : PySem.W.Frag} {H H' : Hp} (e : Same H H') : ∀ {ds : List PyData} {vs : List V}, DpAll K H vs ds → DpAll K H' vs ds
  | [], _, h => by cases h; exact .nil
  | _ :: _, _, h => by
    cases h with
    | cons h1 h2 => exact .cons (dp_same e h1) (dpa_same e h2)
end
/-- the heap less what stands at r -/
def wo (H : Hp) (r : Addr) : Hp := fun b => if b = r then none else H b
theorem wo_at {H : Hp} {r : Addr} : wo H r r = none := by unfold wo; rw [if_pos rfl]
theorem wo_ne {H : Hp} {r b : Addr} (h : b ≠ r) : wo H r b = H b := by unfold wo; rw [if_neg h]
theorem wo_sub {H : Hp} {r : Addr} : Same (wo H r) H := fun b o e => by
  by_cases h : b = r
  · rw [h, wo_at] at e
    cases e
  · rw [wo_ne h] at e
    exact e
theorem wo_mono {H H' : Hp} {r : Addr} (s : Same H H') : Same (wo H r) (wo H' r) := fun b o e => by
  by_cases h : b = r
  · rw [h, wo_at] at e
    cases e
  · rw [wo_ne h] at e
    rw [wo_ne h]
    exact s _ _ e
theorem into_wo {G H : Hp} {r : Addr} (s : Same G H) (h : G r = none) : Same G (wo H r) := fun b o e => by
  rw [wo_ne (ne_of_none e h)]
  exact s _ _ e
/-- what is new in H' -/
def nw (H H' : Hp) : Hp := fun b => match H b with
  | none => H' b
  | some _ => none
theorem nw_none {H H' : Hp} {b : Addr} (h : H b = none) : nw H H' b = H' b := by unfold nw; rw [h]
theorem nw_some {H H' : Hp} {b : Addr} {o : HO} (h : H b = some o) : nw H H' b = none := by unfold nw; rw [h]
theorem nw_of {H H' : Hp} {b : Addr} {o : HO} (h : nw H H' b = some o) : H b = none ∧ H' b = some o := by
  cases e : H b with
  | none => rw [nw_none e] at h; exact ⟨rfl, h⟩
  | some x => rw [nw_some e] at h; cases h
theorem nw_sub {H H' : Hp} : Same (nw H H') H' := fun b o e => (nw_of e).2
theorem nw_wo {H H' : Hp} {r : Addr} {o : HO} (h : H r = some o) : Same (nw H H') (wo H' r) := into_wo nw_sub (nw_some h)
theorem nw_into {G H H' : Hp} {r : Addr} (hr : ∃ o, H r = some o) : Same (nw H H') (wo H' r) := let ⟨_, h⟩ := hr; nw_wo h
/-- a later heap, the same beginning -/
theorem nw_later {H H1 H2 : Hp} (s : Same H1 H2) : Same (nw H H1) (nw H H2) := fun b o e => by
  obtain ⟨h1, h2⟩ := nw_of e
  rw [nw_none h1]
  exact s _ _ h2
/-- an earlier beginning -/
theorem nw_earlier {H H1 H2 : Hp} (s : Same H H1) : Same (nw H1 H2) (nw H H2) := fun b o e => by
  obtain ⟨h1, h2⟩ := nw_of e
  rw [nw_none (s.free h1)]
  exact h2
theorem nw_new {H H' : Hp} {p : Addr} {o : HO} (s : Same H H') (h : H' p = none) : nw H (upd H' p o) p = some o := by
  rw [nw_none (s.free h), upd_same]
theorem sqt_dp {K : PySem.W.Frag} {H : Hp} {a : Addr} {xs : List V} {ds : List PyData} (h : SqT K H a xs) (d : DpAll K H xs ds) : Dp K H (.ref a) (.tuple ds) := .tup h d

/-! ### ints, pairs, lists of them as data -/
theorem dpa_ints {K : PySem.W.Frag} {H : Hp} : ∀ ns : List Int, DpAll K H (ns.map V.int) (ns.map PyData.int)
  | [] => .nil
  | n :: r => .cons (.int n) (dpa_ints r)
theorem dpa_ints_inv {K : PySem.W.Frag} {H : Hp} : ∀ {ns : List Int} {vs : List V}, DpAll K H vs (ns.map PyData.int) → vs = ns.map V.int
  | [], _, h => by cases h; rfl
  | n :: r, _, h => by
    cases h with
    | cons h1 h2 =>
      cases h1
      rw [dpa_ints_inv h2]
      rfl
theorem dpa_len {K : PySem.W.Frag} {H : Hp} : ∀ {ds : List PyData} {vs : List V}, DpAll K H vs ds → vs.length = ds.length
  | [], _, h => by cases h; rfl
  | _ :: _, _, h => by
    cases h with
    | cons h1 h2 => simp only [List.length_cons, dpa_len h2]
theorem dpa_get {K : PySem.W.Frag} {H : Hp} : ∀ {ds : List PyData} {vs : List V} {i : Nat} {d : PyData}, DpAll K H vs ds → ds[i]? = some d → ∃ v, vs[i]? = some v ∧ Dp K H v d
  | [], _, _, _, _, e => by simp at e
  | _ :: _, _, 0, _, h, e => by
    cases h with
    | cons h1 h2 => simp at e; subst e; exact ⟨_, rfl, h1⟩
  | _ :: _, _, i + 1, _, h, e => by
    cases h with
    | cons h1 h2 =>
      obtain ⟨v, a, b⟩ := dpa_get (i := i) h2 (by simpa using e)
      exact ⟨v, by simpa using a, b⟩
theorem dpa_get' {K : PySem.W.Frag} {H : Hp} : ∀ {ds : List PyData} {vs : List V} {i : Nat} {v : V}, DpAll K H vs ds → vs[i]? = some v → ∃ d, ds[i]? = some d ∧ Dp K H v d
  | [], _, _, _, h, e => by cases h; simp at e
  | _ :: _, _, 0, _, h, e => by
    cases h with
    | cons h1 h2 => simp at e; subst e; exact ⟨_, rfl, h1⟩
  | _ :: _, _, i + 1, _, h, e => by
    cases h with
    | cons h1 h2 =>
      obtain ⟨v, a, b⟩ := dpa_get' (i := i) h2 (by simpa using e)
      exact ⟨v, by simpa using a, b⟩
theorem dpa_snoc {K : PySem.W.Frag} {H : Hp} : ∀ {ds : List PyData} {vs : List V} {d : PyData} {v : V}, DpAll K H vs ds → Dp K H v d → DpAll K H (vs ++ [v]) (ds ++ [d])
  | [], _, _, _, h, e => by cases h; exact .cons e .nil
  | _ :: _, _, _, _, h, e => by
    cases h with
    | cons h1 h2 => exact .cons h1 (dpa_snoc h2 e)
theorem dp_list {K : PySem.W.Frag} {H : Hp} {v : V} {ds : List PyData} (h : Dp K H v (.list ds)) : ∃ a xs, v = .ref a ∧ SqL K H a xs ∧ DpAll K H xs ds := by
  cases h with
  | lst hs ha => exact ⟨_, _, rfl, hs, ha⟩
theorem dp_tuple {K : PySem.W.Frag} {H : Hp} {v : V} {ds : List PyData} (h : Dp K H v (.tuple ds)) : ∃ a xs, v = .ref a ∧ SqT K H a xs ∧ DpAll K H xs ds := by
  cases h with
  | tup hs ha => exact ⟨_, _, rfl, hs, ha⟩
theorem dp_ints {K : PySem.W.Frag} {H : Hp} {v : V} {ns : List Int} (h : Dp K H v (.list (ns.map PyData.int))) : ∃ a, v = .ref a ∧ SqL K H a (ns.map V.int) := by
  obtain ⟨a, xs, e, hs, ha⟩ := dp_list h
  rw [dpa_ints_inv ha] at hs
  exact ⟨a, e, hs⟩
theorem dp_tints {K : PySem.W.Frag} {H : Hp} {v : V} {ns : List Int} (h : Dp K H v (.tuple (ns.map PyData.int))) : ∃ a, v = .ref a ∧ SqT K H a (ns.map V.int) := by
  obtain ⟨a, xs, e, hs, ha⟩ := dp_tuple h
  rw [dpa_ints_inv ha] at hs
  exact ⟨a, e, hs⟩
theorem dp_ints_of {K : PySem.W.Frag} {H : Hp} {a : Addr} {ns : List Int} (h : SqL K H a (ns.map V.int)) : Dp K H (.ref a) (.list (ns.map PyData.int)) := .lst h (dpa_ints ns)
theorem dp_tints_of {K : PySem.W.Frag} {H : Hp} {a : Addr} {ns : List Int} (h : SqT K H a (ns.map V.int)) : Dp K H (.ref a) (.tuple (ns.map PyData.int)) := .tup h (dpa_ints ns)

theorem eqv_nil (ns : List Int) : PyData.eqv (.list (ns.map PyData.int)) (.list []) = decide (ns = []) := by
  cases ns with
  | nil => simp [PyData.eqv, PyData.eqvAll]
  | cons n r => simp [PyData.eqv, PyData.eqvAll]

/-! ### disks and asks -/
/-- (come, track, sector) -/
abbrev Ask := Int × Int × Int
def dAsk (a : Ask) : PyData := .tuple ([a.1, a.2.1, a.2.2].map PyData.int)
def dAsks (l : List Ask) : PyData := .list (l.map dAsk)
structure Disk where
  tr : Int
  sc : Int
  pa : Int
  he : Int
def dDisk (d : Disk) : PyData := .tuple ([d.tr, d.sc, d.pa, d.he].map PyData.int)
structure GoodDisk (d : Disk) : Prop where
  t1 : 1 ≤ d.tr
  t2 : d.tr ≤ 64
  s1 : 1 ≤ d.sc
  s2 : d.sc ≤ 16
  p1 : 1 ≤ d.pa
  p2 : d.pa ≤ 4
  h1 : 0 ≤ d.he
  h2 : d.he < d.tr
structure GoodAsk (d : Disk) (a : Ask) : Prop where
  c1 : 0 ≤ a.1
  c2 : a.1 ≤ 999
  t1 : 0 ≤ a.2.1
  t2 : a.2.1 < d.tr
  s1 : 0 ≤ a.2.2
  s2 : a.2.2 < d.sc
structure GoodAsks (d : Disk) (l : List Ask) : Prop where
  len : l.length ≤ 40
  all : ∀ a ∈ l, GoodAsk d a
theorem GoodAsks.at {d : Disk} {l : List Ask} (g : GoodAsks d l) {i : Nat} {a : Ask} (h : l[i]? = some a) : GoodAsk d a := g.all a (List.mem_of_getElem? h)
theorem dp_asks {K : PySem.W.Frag} {H : Hp} {v : V} {l : List Ask} (h : Dp K H v (dAsks l)) : ∃ a xs, v = .ref a ∧ SqL K H a xs ∧ xs.length = l.length ∧
    ∀ (i : Nat) (k : Ask), l[i]? = some k → ∃ p, xs[i]? = some (.ref p) ∧ SqT K H p [.int k.1, .int k.2.1, .int k.2.2] ∧ Dp K H (.ref p) (dAsk k) := by
  obtain ⟨a, xs, e, hs, ha⟩ := dp_list h
  refine ⟨a, xs, e, hs, by rw [dpa_len ha, List.length_map], fun i k hk => ?_⟩
  obtain ⟨v, hv, hd⟩ := dpa_get (i := i) (d := dAsk k) ha (by rw [List.getElem?_map, hk]; rfl)
  obtain ⟨p, rfl, ht⟩ := dp_tints hd
  exact ⟨p, hv, ht, hd⟩
theorem dp_disk {K : PySem.W.Frag} {H : Hp} {v : V} {d : Disk} (h : Dp K H v (dDisk d)) : ∃ a, v = .ref a ∧ SqT K H a [.int d.tr, .int d.sc, .int d.pa, .int d.he] := dp_tints h

/-! ### all but what stands at r stays -/
def SameBut (r : Addr) (H H' : Hp) : Prop := ∀ b o, b ≠ r → H b = some o → H' b = some o
theorem sb_refl {r : Addr} {H : Hp} : SameBut r H H := fun _ _ _ e => e
theorem sb_of {r : Addr} {H H' : Hp} (s : Same H H') : SameBut r H H' := fun b o _ e => s b o e
theorem sb_trans {r : Addr} {H H1 H2 : Hp} (a : SameBut r H H1) (b : SameBut r H1 H2) : SameBut r H H2 := fun c o n e => b c o n (a c o n e)
theorem sb_upd {r : Addr} {H H' : Hp} {o : HO} (s : SameBut r H H') : SameBut r H (upd H' r o) := fun b x n e => by
  rw [upd_ne n]
  exact s b x n e
theorem sb_new {r p : Addr} {H H' : Hp} {o : HO} (s : SameBut r H H') (h : H' p = none) : SameBut r H (upd H' p o) := fun b x n e => by
  rw [upd_ne (ne_of_none (s b x n e) h)]
  exact s b x n e
theorem sb_old {r p : Addr} {H H' : Hp} {o : HO} (s : SameBut r H H') (h : H p = none) : SameBut r H (upd H' p o) := fun b x n e => by
  rw [upd_ne (ne_of_none e h)]
  exact s b x n e
theorem sb_wo {r : Addr} {H H' : Hp} (s : SameBut r H H') : Same (wo H r) (wo H' r) := fun b o e => by
  by_cases h : b = r
  · rw [h, wo_at] at e
    cases e
  · rw [wo_ne h] at e
    rw [wo_ne h]
    exact s _ _ h e
theorem sb_free {r p : Addr} {H H' : Hp} (s : SameBut r H H') (n : p ≠ r) (h : H' p = none) : H p = none := by
  cases e : H p with
  | none => rfl
  | some o =>
    rw [s p o n e] at h
    cases h
theorem wo2_step {r F : Addr} {H H' : Hp} (s : ∀ b o, b ≠ r → b ≠ F → H b = some o → H' b = some o) : Same (wo (wo H r) F) (wo (wo H' r) F) := fun b o e => by
  have n1 : b ≠ F := fun z => by
    rw [z, wo_at] at e
    cases e
  rw [wo_ne n1] at e
  have n2 : b ≠ r := fun z => by
    rw [z, wo_at] at e
    cases e
  rw [wo_ne n2] at e
  rw [wo_ne n1, wo_ne n2]
  exact s b o n2 n1 e
/-- what is new in H', besides F -/
def fr (H H' : Hp) (F : Addr) : Hp := wo (nw H H') F
theorem fr_step {H H1 H2 : Hp} {F : Addr} (s : SameBut F H1 H2) : Same (fr H H1 F) (fr H H2 F) := fun b o e => by
  have n : b ≠ F := fun z => by
    unfold fr at e
    rw [z, wo_at] at e
    cases e
  unfold fr at e ⊢
  rw [wo_ne n] at e
  rw [wo_ne n]
  obtain ⟨h1, h2⟩ := nw_of e
  rw [nw_none h1]
  exact s _ _ n h2
theorem fr_at {H H' : Hp} {F p : Addr} {o : HO} (n : p ≠ F) (h : H p = none) (e : H' p = some o) : fr H H' F p = some o := by
  unfold fr
  rw [wo_ne n, nw_none h]
  exact e
theorem fr_nw {H H' : Hp} {F : Addr} : Same (fr H H' F) (nw H H') := wo_sub
theorem fr_sub {H H' : Hp} {F : Addr} : Same (fr H H' F) H' := wo_sub.trans nw_sub

/-- what is new in H', besides F and W -/
def fr2 (H H' : Hp) (F W : Addr) : Hp := wo (fr H H' F) W
theorem fr2_step {H H1 H2 : Hp} {F W : Addr} (s : ∀ b o, b ≠ F → b ≠ W → H1 b = some o → H2 b = some o) : Same (fr2 H H1 F W) (fr2 H H2 F W) := fun b o e => by
  have n1 : b ≠ W := fun z => by
    unfold fr2 at e
    rw [z, wo_at] at e
    cases e
  unfold fr2 at e ⊢
  rw [wo_ne n1] at e
  rw [wo_ne n1]
  have n2 : b ≠ F := fun z => by
    unfold fr at e
    rw [z, wo_at] at e
    cases e
  unfold fr at e ⊢
  rw [wo_ne n2] at e
  rw [wo_ne n2]
  obtain ⟨h1, h2⟩ := nw_of e
  rw [nw_none h1]
  exact s _ _ n2 n1 h2
theorem fr2_at {H H' : Hp} {F W p : Addr} {o : HO} (n : p ≠ F) (n2 : p ≠ W) (h : H p = none) (e : H' p = some o) : fr2 H H' F W p = some o := by
  unfold fr2
  rw [wo_ne n2]
  exact fr_at n h e

/-! ### orders: numbers -/
def nints (os : List Nat) : List Int := os.map fun (i : Nat) => (i : Int)
theorem nints_len (os : List Nat) : (nints os).length = os.length := List.length_map ..
theorem nints_at {os : List Nat} {i : Nat} {x : V} (h : ((nints os).map V.int)[i]? = some x) : ∃ n, os[i]? = some n ∧ x = V.int (n : Int) := by
  unfold nints at h
  rw [List.map_map, List.getElem?_map] at h
  cases e : os[i]? with
  | none =>
    rw [e] at h
    cases h
  | some n =>
    rw [e] at h
    exact ⟨n, rfl, (Option.some.inj h).symm⟩
theorem nints_get {os : List Nat} {i n : Nat} (h : os[i]? = some n) : ((nints os).map V.int)[i]? = some (V.int (n : Int)) := by
  unfold nints
  rw [List.map_map, List.getElem?_map, h]
  rfl
theorem take_more {α : Type} : ∀ {l : List α} {i : Nat} {x : α}, l[i]? = some x → l.take (i + 1) = l.take i ++ [x]
  | [], i, x, h => by simp at h
  | a :: l, 0, x, h => by
    have e : a = x := Option.some.inj h
    subst e
    rfl
  | a :: l, i + 1, x, h => by
    have ih := take_more (l := l) (i := i) (x := x) h
    show a :: l.take (i + 1) = a :: l.take i ++ [x]
    rw [ih]
    rfl
theorem getD_of {α : Type} {l : List α} {i : Nat} {x d : α} (h : l[i]? = some x) : l.getD i d = x := by
  rw [List.getD_eq_getElem?_getD, h]
  rfl
/-- a rising list of the numbers below n, in any order, is 0, 1, .. -/
theorem rising_range {n : Nat} {ns : List Int} {os : List Nat} (p : ns.Perm (nints os)) (q : os.Perm (List.range n)) (r : ns.Pairwise (· ≤ ·)) : ns = nints (List.range n) := by
  have p2 : ns.Perm (nints (List.range n)) := p.trans (q.map _)
  refine List.Perm.eq_of_pairwise (le := fun a b : Int => a ≤ b) (fun a b _ _ h1 h2 => Int.le_antisymm h1 h2) r ?_ p2
  unfold nints
  rw [List.pairwise_map]
  exact List.pairwise_le_range.imp fun h => by exact_mod_cast h
theorem rg_nints (n : Nat) : rgV 0 (n : Int) = (nints (List.range n)).map V.int := by
  unfold rgV nints
  rw [List.map_map]
  have e : ((n : Int) - 0).toNat = n := by omega
  rw [e]
  refine List.map_congr_left fun i _ => ?_
  show V.int (0 + (i : Int)) = V.int (i : Int)
  rw [Int.zero_add]
theorem canLay_ints : ∀ ns : List Int, PyData.canLayAll0 (ns.map PyData.int) = true
  | [] => by simp [PyData.canLayAll0]
  | n :: r => by simp [PyData.canLayAll0, PyData.canLay0, canLay_ints r]
theorem shaped_ints (ns : List Int) : SeqAt.shaped (.list (ns.map PyData.int)) = true := by
  unfold SeqAt.shaped
  simp [PyData.canLay0, canLay_ints, PyData.depth, PySem.W.depth_ints]
theorem shaped_tints (ns : List Int) : SeqAt.shaped (.tuple (ns.map PyData.int)) = true := by
  unfold SeqAt.shaped
  simp [PyData.canLay0, canLay_ints, PyData.depth, PySem.W.depth_ints]

theorem canLay_asks : ∀ l : List Ask, PyData.canLayAll0 (l.map dAsk) = true
  | [] => by simp [PyData.canLayAll0]
  | n :: r => by simp [PyData.canLayAll0, PyData.canLay0, dAsk, canLay_asks r]
theorem depth_asks : ∀ l : List Ask, PyData.depthAll (l.map dAsk) ≤ 1
  | [] => by simp [PyData.depthAll]
  | n :: r => by
    have h := depth_asks r
    have e : PyData.depth (dAsk n) = 1 := by
      unfold dAsk
      rw [PyData.depth, PySem.W.depth_ints]
    rw [List.map_cons, PyData.depthAll, e]
    omega
theorem shaped_asks (l : List Ask) : SeqAt.shaped (dAsks l) = true := by
  have := depth_asks l
  unfold SeqAt.shaped
  simp [PyData.canLay0, canLay_asks, PyData.depth, dAsks]
  omega

/-! ### the row of the script: (script, place, mixed) -/
/-- the script: read, never written -/
def ScrAt (K : PySem.W.Frag) (H : Hp) (a : Addr) (ns : List Int) : Prop :=
  (∃ o, H a = some (.frz o (.lst (ns.map V.int)))) ∨
    ∃ (o : Obj) (its : Array Value) (n : Nat), K.lookup a = some o ∧ o.cls = .type "list" ∧ o.dict = none ∧ o.data = .seq its n ∧ its.size ≤ sizeLine ∧ Vals (ns.map V.int) its.toList
theorem ScrAt.sql {K : PySem.W.Frag} {H : Hp} {a : Addr} {ns : List Int} (h : ScrAt K H a ns) : SqL K H a (ns.map V.int) := by
  rcases h with ⟨o, h⟩ | h
  · exact .inl (.inr ⟨o, h⟩)
  · exact .inr h
theorem scr_of {K : PySem.W.Frag} {H : Hp} {a : Addr} {ns : List Int} (hO : Only H) (h : SqL K H a (ns.map V.int)) : ScrAt K H a ns := by
  rcases h with (h | ⟨o, h⟩) | h
  · rcases hO a with e | ⟨o, xs, e⟩
    · rw [e] at h
      cases h
    · rw [e] at h
      cases h
  · exact .inl ⟨o, h⟩
  · exact .inr h
theorem ScrAt.but {K : PySem.W.Frag} {H H' : Hp} {a : Addr} {ns : List Int} (h : ScrAt K H a ns) (s : Same H H') : ScrAt K H' a ns := by
  rcases h with ⟨o, h⟩ | h
  · exact .inl ⟨o, s _ _ h⟩
  · exact .inr h
theorem ScrAt.put {K : PySem.W.Frag} {H : Hp} {a b : Addr} {ns : List Int} {xs : List V} {o : HO} (h : ScrAt K H a ns) (e : H b = some (.lst xs)) : ScrAt K (upd H b o) a ns := by
  rcases h with ⟨x, h⟩ | h
  · have n : a ≠ b := ne_of h e (by intro z; cases z)
    exact .inl ⟨x, by rw [upd_ne n]; exact h⟩
  · exact .inr h
theorem ScrAt.of {K : PySem.W.Frag} {H H' : Hp} {a : Addr} {ns : List Int} (h : ScrAt K H a ns) (s : ∀ b o u, H b = some (.frz o u) → H' b = some (.frz o u)) : ScrAt K H' a ns := by
  rcases h with ⟨x, h⟩ | h
  · exact .inl ⟨x, s _ _ _ h⟩
  · exact .inr h
def RowAt (K : PySem.W.Frag) (H : Hp) (r : Addr) : Prop := ∃ (a : Addr) (ns : List Int) (pos mix : Int), 0 ≤ pos ∧ H r = some (.lst [.ref a, .int pos, .int mix]) ∧ ScrAt K H a ns
theorem RowAt.but {K : PySem.W.Frag} {H H' : Hp} {r : Addr} (h : RowAt K H r) (s : Same H H') : RowAt K H' r := by
  obtain ⟨a, ns, pos, mix, h1, h2, h3⟩ := h
  exact ⟨a, ns, pos, mix, h1, s _ _ h2, h3.but s⟩
theorem RowAt.put {K : PySem.W.Frag} {H : Hp} {r b : Addr} {xs : List V} {o : HO} (h : RowAt K H r) (n : b ≠ r) (e : H b = some (.lst xs)) : RowAt K (upd H b o) r := by
  obtain ⟨a, ns, pos, mix, h1, h2, h3⟩ := h
  exact ⟨a, ns, pos, mix, h1, by rw [upd_ne n.symm]; exact h2, h3.put e⟩
theorem row_start {K : PySem.W.Frag} {H : Hp} {a r : Addr} {ns : List Int} (h : ScrAt K H a ns) (e : H r = none) : RowAt K (upd H r (.lst [.ref a, .int 0, .int 0])) r := ⟨a, ns, 0, 0, Int.le_refl _, upd_same, h.but (same_new e)⟩
theorem same_sb {G H H' : Hp} {r : Addr} (s : Same G H) (e : G r = none) (b : SameBut r H H') : Same G H' := fun c o q => b c o (ne_of_none q e) (s _ _ q)
theorem RowAt.some {K : PySem.W.Frag} {H : Hp} {r : Addr} (h : RowAt K H r) : ∃ o, H r = Option.some o := by
  obtain ⟨a, ns, pos, mix, h1, h2, h3⟩ := h
  exact ⟨_, h2⟩
theorem RowAt.ne {K : PySem.W.Frag} {H : Hp} {r p : Addr} (h : RowAt K H r) (e : H p = none) : p ≠ r := fun z => by
  obtain ⟨o, h⟩ := h.some
  rw [z, h] at e
  cases e

/-! ### max(ns, default=0) -/
def maxl : List Int → Int
  | [] => 0
  | n :: r => r.foldl max n
theorem reads_int {h : Heap} {v : Value} {n : Int} {as : List Addr} (r : Reads h v (.int n) as) : ∃ t, v = .int n t := by
  cases r
  exact ⟨_, rfl⟩
theorem alike_ints_all (ns : List Int) : PySem.W.AlikeAll (ns.map PyData.int) := by
  refine ⟨fun x hx y hy => ?_, fun x hx => ?_⟩
  · obtain ⟨i, _, rfl⟩ := List.mem_map.mp hx
    obtain ⟨j, _, rfl⟩ := List.mem_map.mp hy
    simp [PySem.W.alike]
  · obtain ⟨i, _, rfl⟩ := List.mem_map.mp hx
    exact fun z => by cases z
def rMaxD0 (K : PySem.W.Frag) : List V → List V → Hp → VK → Prop := fun vs zs H Q => ∃ (a : Addr) (ns : List Int), vs = [V.ref a] ∧ zs = [.int 0] ∧ SqL K H a (ns.map V.int) ∧ Q (.int (maxl ns)) H
section
variable {X : Cx}
theorem cr_maxD0 (hc : X.calm = true) (hu : X.A.units + 1 < cLine) : CallRK X (.builtin "max") [Str.ofString "default"] (rMaxD0 X.K) := by
  intro pins s σ H xs zs us ws Q I r rz h
  obtain ⟨a, ns, rfl, rfl, hs, q⟩ := h
  obtain ⟨its, rv, hl, _⟩ := I.list hs
  rw [Vals.ref1 r]
  cases rz with
  | cons rz1 rz2 =>
    cases rz2
    obtain ⟨t, rfl⟩ := rz1
    obtain ⟨as, hr⟩ := Dp.readsAll I (ns.map PyData.int) _ its (dpa_ints ns) rv
    refine PySem.W.max_list_default (I.ok.hd hc) hl.isList (by simpa using hr) (alike_ints_all ns) (by rw [PySem.W.depth_ints]; exact hu) (fun e h' tk hk => ?_) fun y ys i v h' tk bs e hv hread hk => ?_
    · have e0 : ns = [] := by
        cases ns with
        | nil => rfl
        | cons n r => cases e
      subst e0
      exact ⟨.int 0, H, I.kept hk, ⟨_, rfl⟩, q⟩
    · obtain ⟨n, r, rfl, rfl, rfl⟩ : ∃ n r, ns = n :: r ∧ y = .int n ∧ ys = r.map PyData.int := by
        cases ns with
        | nil => cases e
        | cons n r =>
          rw [List.map_cons] at e
          injection e with e1 e2
          exact ⟨n, r, rfl, e1.symm, e2.symm⟩
      rw [PySem.W.maxD_ints] at hread
      obtain ⟨t', rfl⟩ := reads_int hread
      exact ⟨.int (maxl (n :: r)), H, I.kept hk, ⟨_, rfl⟩, q⟩
end
end Ag

namespace Ag
open PySem PySem.Spec PyProof.Rows L2

/-! ### the mathematics: when an ask is done -/
def iabs (i : Int) : Int := if i < 0 then -i else i
def imax (i j : Int) : Int := if j > i then j else i
def serve (d : Disk) (now here : Int) (a : Ask) : Int :=
  imax now a.1 + iabs (a.2.1 - here) * d.pa + (a.2.2 - (imax now a.1 + iabs (a.2.1 - here) * d.pa)) % d.sc + 1
theorem iabs_nn (i : Int) : 0 ≤ iabs i := by
  unfold iabs
  split <;> omega
theorem imax_l (i j : Int) : i ≤ imax i j := by
  unfold imax
  split <;> omega
theorem imax_r (i j : Int) : j ≤ imax i j := by
  unfold imax
  split <;> omega
theorem serve_lb {d : Disk} (g : GoodDisk d) (now here : Int) (a : Ask) : imax now a.1 + 1 ≤ serve d now here a := by
  unfold serve
  have h1 : 0 ≤ iabs (a.2.1 - here) * d.pa := Int.mul_nonneg (iabs_nn _) (by have := g.p1; omega)
  have h2 := Int.emod_nonneg (a.2.2 - (imax now a.1 + iabs (a.2.1 - here) * d.pa)) (b := d.sc) (by have := g.s1; omega)
  omega
/-- rows: (number, when it is done), in an order -/
def rowsOf (d : Disk) (asks : List Ask) : Int → Int → List Nat → List (Nat × Int)
  | _, _, [] => []
  | now, here, i :: r => (i, serve d now here (asks.getD i (0, 0, 0))) :: rowsOf d asks (serve d now here (asks.getD i (0, 0, 0))) (asks.getD i (0, 0, 0)).2.1 r
def dRow (r : Nat × Int) : PyData := .tuple ([(r.1 : Int), r.2].map PyData.int)
def endOf (d : Disk) (asks : List Ask) : Int → Int → List Nat → Int × Int
  | now, here, [] => (now, here)
  | now, here, i :: r => endOf d asks (serve d now here (asks.getD i (0, 0, 0))) (asks.getD i (0, 0, 0)).2.1 r
theorem rowsOf_snoc (d : Disk) (asks : List Ask) (i : Nat) : ∀ (r : List Nat) (now here : Int), rowsOf d asks now here (r ++ [i]) = rowsOf d asks now here r ++ [(i, serve d (endOf d asks now here r).1 (endOf d asks now here r).2 (asks.getD i (0, 0, 0)))]
  | [], _, _ => rfl
  | j :: r, now, here => by
    show _ :: rowsOf d asks _ _ (r ++ [i]) = _
    rw [rowsOf_snoc d asks i r]
    rfl
theorem endOf_snoc (d : Disk) (asks : List Ask) (i : Nat) : ∀ (r : List Nat) (now here : Int), endOf d asks now here (r ++ [i]) = (serve d (endOf d asks now here r).1 (endOf d asks now here r).2 (asks.getD i (0, 0, 0)), (asks.getD i (0, 0, 0)).2.1)
  | [], _, _ => rfl
  | j :: r, now, here => endOf_snoc d asks i r _ _
theorem rowsOf_len (d : Disk) (asks : List Ask) : ∀ (r : List Nat) (now here : Int), (rowsOf d asks now here r).length = r.length
  | [], _, _ => rfl
  | j :: r, now, here => by
    show (rowsOf d asks _ _ r).length + 1 = r.length + 1
    rw [rowsOf_len d asks r]
theorem rowsOf_fst (d : Disk) (asks : List Ask) : ∀ (r : List Nat) (now here : Int), (rowsOf d asks now here r).map (·.1) = r
  | [], _, _ => rfl
  | j :: r, now, here => by
    show j :: (rowsOf d asks _ _ r).map (·.1) = j :: r
    rw [rowsOf_fst d asks r]
/-- how far the arm goes -/
def wayOf (asks : List Ask) : Int → List (Nat × Int) → Int
  | _, [] => 0
  | here, r :: rest => iabs ((asks.getD r.1 (0, 0, 0)).2.1 - here) + wayOf asks (asks.getD r.1 (0, 0, 0)).2.1 rest
def hereOf (asks : List Ask) : Int → List (Nat × Int) → Int
  | here, [] => here
  | _, r :: rest => hereOf asks (asks.getD r.1 (0, 0, 0)).2.1 rest
theorem wayOf_snoc (asks : List Ask) (x : Nat × Int) : ∀ (rs : List (Nat × Int)) (here : Int), wayOf asks here (rs ++ [x]) = wayOf asks here rs + iabs ((asks.getD x.1 (0, 0, 0)).2.1 - hereOf asks here rs)
  | [], here => by
    show iabs _ + 0 = 0 + iabs _
    simp [hereOf]
  | r :: rs, here => by
    show iabs _ + wayOf asks _ (rs ++ [x]) = iabs _ + wayOf asks _ rs + _
    rw [wayOf_snoc asks x rs]
    simp only [hereOf]
    omega
theorem hereOf_snoc (asks : List Ask) (x : Nat × Int) : ∀ (rs : List (Nat × Int)) (here : Int), hereOf asks here (rs ++ [x]) = (asks.getD x.1 (0, 0, 0)).2.1
  | [], here => rfl
  | r :: rs, here => hereOf_snoc asks x rs _
def waitOf (asks : List Ask) (r : Nat × Int) : Int := r.2 - (asks.getD r.1 (0, 0, 0)).1
def waitsOf (asks : List Ask) (rs : List (Nat × Int)) : List Int := rs.map (waitOf asks)
/-- (way, longest, all) -/
def costsOf (d : Disk) (asks : List Ask) (rs : List (Nat × Int)) : Int × Int × Int := (wayOf asks d.he rs, maxl (waitsOf asks rs), (waitsOf asks rs).sum)
def dCosts (c : Int × Int × Int) : PyData := .tuple ([c.1, c.2.1, c.2.2].map PyData.int)
def dRes (rs : List (Nat × Int)) (c : Int × Int × Int) : PyData := .tuple [.list (rs.map dRow), dCosts c]
theorem foldl_max_le (m : Int) : ∀ (l : List Int) (n : Int), m ≤ n → m ≤ l.foldl max n
  | [], n, h => h
  | x :: r, n, h => foldl_max_le m r (max n x) (by omega)
/-- max([0] + waits) is the same where no wait is below 0 -/
theorem maxl_zero : ∀ (l : List Int), (∀ x ∈ l, 0 ≤ x) → maxl (0 :: l) = maxl l
  | [], _ => rfl
  | x :: r, h => by
    show r.foldl max (max 0 x) = r.foldl max x
    have hx := h x List.mem_cons_self
    rw [show max 0 x = x by omega]
theorem end_here (d : Disk) (asks : List Ask) : ∀ (r : List Nat) (now here : Int), (endOf d asks now here r).2 = hereOf asks here (rowsOf d asks now here r)
  | [], _, _ => rfl
  | i :: r, now, here => end_here d asks r _ _
theorem rows_waits {d : Disk} (g : GoodDisk d) (asks : List Ask) : ∀ (r : List Nat) (now here : Int), ∀ x ∈ waitsOf asks (rowsOf d asks now here r), 1 ≤ x
  | [], _, _, x, hx => by simp [rowsOf, waitsOf] at hx
  | i :: r, now, here, x, hx => by
    unfold rowsOf waitsOf at hx
    rw [List.map_cons, List.mem_cons] at hx
    rcases hx with rfl | hx
    · have h1 := serve_lb g now here (asks.getD i (0, 0, 0))
      have h2 := imax_r now (asks.getD i (0, 0, 0)).1
      show 1 ≤ serve d now here (asks.getD i (0, 0, 0)) - (asks.getD i (0, 0, 0)).1
      omega
    · exact rows_waits g asks r _ _ x hx
/-! ### step by step: what the law does -/
theorem iabs_step {t h : Int} (ne : h ≠ t) : iabs (t - (h + (if t < h then -1 else 1))) = iabs (t - h) - 1 := by
  unfold iabs
  split <;> split <;> split <;> omega
theorem emod_step {s n c : Int} (hc : 0 < c) (hs0 : 0 ≤ s) (hs : s < c) (ne : n % c ≠ s) : (s - (n + 1)) % c = (s - n) % c - 1 ∧ 0 < (s - n) % c := by
  have h0 := Int.emod_nonneg (s - n) (b := c) (by omega)
  have h1 := Int.emod_lt_of_pos (s - n) hc
  have hz : (s - n) % c ≠ 0 := fun e => by
    have d : c ∣ s - n := Int.dvd_of_emod_eq_zero e
    obtain ⟨k, hk⟩ := d
    have e2 : n = s + c * (-k) := by
      rw [Int.mul_neg]
      omega
    rw [e2, Int.add_mul_emod_self_left, Int.emod_eq_of_lt hs0 hs] at ne
    exact ne rfl
  refine ⟨?_, by omega⟩
  have e : s - (n + 1) = ((s - n) % c - 1) + c * ((s - n) / c) := by
    have := Int.mul_ediv_add_emod (s - n) c
    omega
  rw [e, Int.add_mul_emod_self_left]
  exact Int.emod_eq_of_lt (by omega) (by omega)
theorem emod_end {s n c : Int} (hs : n % c = s) : (s - n) % c = 0 := by
  rw [← hs]
  have := Int.mul_ediv_add_emod n c
  have e : n % c - n = 0 + c * (-(n / c)) := by
    rw [Int.mul_neg]
    omega
  rw [e, Int.add_mul_emod_self_left]
  simp
end Ag

namespace Ag
open PySem PySem.Spec PyProof.Rows L2

/-! ### min of alike data: the first of the least -/
theorem minD_mem (x : PyData) (xs : List PyData) : PySem.W.minD x xs ∈ x :: xs := by
  have go : ∀ (xs : List PyData) (x : PyData), xs.foldl (fun a y => if PySem.W.dataLt y a then y else a) x ∈ x :: xs := by
    intro xs
    induction xs with
    | nil => intro x; exact List.mem_cons_self
    | cons y r ih =>
      intro x
      show r.foldl _ (if PySem.W.dataLt y x then y else x) ∈ x :: y :: r
      have h := ih (if PySem.W.dataLt y x then y else x)
      rcases List.mem_cons.mp h with h | h
      · rw [h]
        split
        · exact List.mem_cons_of_mem _ List.mem_cons_self
        · exact List.mem_cons_self
      · exact List.mem_cons_of_mem _ (List.mem_cons_of_mem _ h)
  exact go xs x
/-- min(xs): some item whose data is the least -/
def rMinD (K : PySem.W.Frag) (A : Around) : List V → Hp → VK → Prop := fun vs H Q => ∃ (a : Addr) (xs : List V) (d : PyData) (ds : List PyData), vs = [V.ref a] ∧ SqL K H a xs ∧ DpAll K H xs (d :: ds) ∧ PySem.W.AlikeAll (d :: ds) ∧ A.units + 1 + PyData.depthAll (d :: ds) < cLine ∧
  ∀ (i : Nat) (v : V), xs[i]? = some v → (d :: ds)[i]? = some (PySem.W.minD d ds) → Q v H
section
variable {X : Cx}
theorem cr_minD (hc : X.calm = true) : CallR X (.builtin "min") (rMinD X.K X.A) := by
  intro pins s σ H xs us Q I r h
  obtain ⟨a, xs, d, ds, rfl, hs, hda, hal, hu, q⟩ := h
  obtain ⟨its, rv, hl, _⟩ := I.list hs
  rw [Vals.ref1 r]
  obtain ⟨as, hr⟩ := Dp.readsAll I (d :: ds) _ its hda rv
  refine PySem.W.min_list_data (I.ok.hd hc) hl.isList (by simpa using hr) hal hu fun i v h' tk bs hv hread hk => ?_
  have hv' : its[i]? = some v := by simpa using hv
  have hlen := rv.length
  obtain ⟨x, hx⟩ : ∃ x, xs[i]? = some x := by
    have := (List.getElem?_eq_some_iff.mp hv').1
    exact ⟨_, List.getElem?_eq_getElem (by omega)⟩
  obtain ⟨u, hu', ru⟩ := rv.get hx
  rw [hv'] at hu'
  cases hu'
  have I' : Inv X pins σ H { s with heap := h', toks := tk } := I.kept hk
  obtain ⟨e, he, hed⟩ := dpa_get' hda hx
  obtain ⟨as', hr'⟩ := Dp.reads I' e x v hed ru
  have em : e = PySem.W.minD d ds := PySem.W.alike_unique e _ v as' bs (hal.1 e (List.mem_of_getElem? he) _ (minD_mem d ds)) hr' hread
  rw [em] at he
  exact ⟨x, H, I', ru, q i x hx he⟩
end
/-! ### a number in an order -/
theorem inV_nints (n : Nat) : ∀ os : List Nat, inV (.int (n : Int)) ((nints os).map V.int) = decide (n ∈ os)
  | [] => by simp [inV, nints]
  | m :: r => by
    have ih := inV_nints n r
    unfold inV nints at ih ⊢
    rw [List.map_cons, List.map_cons, List.any_cons, ih]
    show ((m : Int) == (n : Int) || decide (n ∈ r)) = decide (n ∈ m :: r)
    by_cases h : n = m
    · subst h
      simp
    · have : ((m : Int) == (n : Int)) = false := by
        simp
        omega
      rw [this]
      simp [h]
theorem flat_nints : ∀ os : List Nat, ((nints os).map V.int).all flatV = true
  | [] => rfl
  | m :: r => by
    have ih := flat_nints r
    unfold nints at ih ⊢
    rw [List.map_cons, List.map_cons, List.all_cons, ih]
    rfl
/-! ### all orders, one number more a turn -/
def moreOf (n : Nat) (os : List Nat) : List (List Nat) := ((List.range n).filter fun i => decide (i ∉ os)).map fun i => os ++ [i]
def ordersK (n : Nat) : Nat → List (List Nat)
  | 0 => [[]]
  | k + 1 => (ordersK n k).flatMap (moreOf n)
theorem moreOf_mem {n : Nat} {os os' : List Nat} : os' ∈ moreOf n os ↔ ∃ i, i < n ∧ i ∉ os ∧ os' = os ++ [i] := by
  unfold moreOf
  rw [List.mem_map]
  constructor
  · rintro ⟨i, hi, rfl⟩
    rw [List.mem_filter, List.mem_range, decide_eq_true_eq] at hi
    exact ⟨i, hi.1, hi.2, rfl⟩
  · rintro ⟨i, h1, h2, rfl⟩
    exact ⟨i, by rw [List.mem_filter, List.mem_range, decide_eq_true_eq]; exact ⟨h1, h2⟩, rfl⟩
structure IsOrd (n k : Nat) (os : List Nat) : Prop where
  len : os.length = k
  lt : ∀ i ∈ os, i < n
  nd : os.Nodup
theorem ordersK_is {n : Nat} : ∀ {k : Nat} {os : List Nat}, os ∈ ordersK n k → IsOrd n k os
  | 0, os, h => by
    rw [List.mem_singleton.mp (show os ∈ [[]] from h)]
    exact ⟨rfl, fun i hi => absurd hi (by simp), List.nodup_nil⟩
  | k + 1, os, h => by
    obtain ⟨o, ho, hm⟩ := List.mem_flatMap.mp h
    obtain ⟨i, h1, h2, rfl⟩ := moreOf_mem.mp hm
    have ih := ordersK_is ho
    refine ⟨by rw [List.length_append, ih.len]; rfl, fun j hj => ?_, ?_⟩
    · rcases List.mem_append.mp hj with hj | hj
      · exact ih.lt j hj
      · rw [List.mem_singleton.mp hj]
        exact h1
    · rw [List.nodup_append]
      refine ⟨ih.nd, by simp, fun a ha b hb => ?_⟩
      rw [List.mem_singleton.mp hb]
      exact fun e => h2 (e ▸ ha)
theorem ordersK_of {n : Nat} : ∀ {k : Nat} {os : List Nat}, IsOrd n k os → os ∈ ordersK n k
  | 0, os, h => by
    have e : os = [] := List.eq_nil_of_length_eq_zero h.len
    subst e
    exact List.mem_singleton.mpr rfl
  | k + 1, os, h => by
    have hne : os ≠ [] := fun e => by
      have := h.len
      rw [e] at this
      cases this
    obtain ⟨o, i, rfl⟩ : ∃ o i, os = o ++ [i] := ⟨os.dropLast, os.getLast hne, (List.dropLast_concat_getLast hne).symm⟩
    have hl := h.len
    rw [List.length_append] at hl
    have hl' : o.length = k := by
      simp at hl
      exact hl
    have nd := h.nd
    rw [List.nodup_append] at nd
    refine List.mem_flatMap.mpr ⟨o, ordersK_of ⟨hl', fun j hj => h.lt j (List.mem_append_left _ hj), nd.1⟩, moreOf_mem.mpr ⟨i, h.lt i (by simp), fun hi => nd.2.2 i hi i (by simp) rfl, rfl⟩⟩
theorem isOrd_range {n : Nat} : IsOrd n n (List.range n) := ⟨List.length_range, fun i hi => List.mem_range.mp hi, List.nodup_range⟩
theorem isOrd_take {n k : Nat} (h : k ≤ n) : IsOrd n k (List.range k) := ⟨List.length_range, fun i hi => by have := List.mem_range.mp hi; omega, List.nodup_range⟩
theorem ordersK_ne {n k : Nat} (h : k ≤ n) : ordersK n k ≠ [] := List.ne_nil_of_mem (ordersK_of (isOrd_take h))
theorem moreOf_len (n : Nat) (os : List Nat) : (moreOf n os).length ≤ n := by
  unfold moreOf
  rw [List.length_map]
  exact Nat.le_trans (List.length_filter_le _ _) (by rw [List.length_range]; exact Nat.le_refl _)
theorem flat_len {α β : Type} (f : α → List β) (c : Nat) : ∀ l : List α, (∀ x ∈ l, (f x).length ≤ c) → (l.flatMap f).length ≤ l.length * c
  | [], _ => by simp
  | x :: r, h => by
    rw [List.flatMap_cons, List.length_append, List.length_cons, Nat.add_mul, Nat.one_mul]
    have h1 := h x List.mem_cons_self
    have h2 := flat_len f c r fun y hy => h y (List.mem_cons_of_mem _ hy)
    omega
theorem ordersK_len (n : Nat) : ∀ k : Nat, (ordersK n k).length ≤ n ^ k
  | 0 => by simp [ordersK]
  | k + 1 => by
    have h := flat_len (moreOf n) n (ordersK n k) fun x _ => moreOf_len n x
    have ih := ordersK_len n k
    have h2 := Nat.mul_le_mul_right n ih
    rw [Nat.pow_succ]
    exact Nat.le_trans h h2
theorem ordersK_len6 {n k : Nat} (hn : n ≤ 6) (hk : k ≤ 6) : (ordersK n k).length ≤ 46656 := by
  refine Nat.le_trans (ordersK_len n k) ?_
  have h1 : n ^ k ≤ 6 ^ k := Nat.pow_le_pow_left hn k
  have h2 : 6 ^ k ≤ 6 ^ 6 := Nat.pow_le_pow_right (by decide) hk
  exact Nat.le_trans h1 (Nat.le_trans h2 (by decide))
/-! ### all waits together, and its least -/
def allOf (d : Disk) (l : List Ask) (os : List Nat) : Int := (waitsOf l (rowsOf d l 0 d.he os)).sum
theorem allOf_snoc (d : Disk) (l : List Ask) (os : List Nat) (i : Nat) : allOf d l (os ++ [i]) = allOf d l os + serve d (endOf d l 0 d.he os).1 (endOf d l 0 d.he os).2 (l.getD i (0, 0, 0)) - (l.getD i (0, 0, 0)).1 := by
  unfold allOf
  rw [rowsOf_snoc]
  unfold waitsOf
  rw [List.map_append, List.sum_append]
  show _ + ((serve d (endOf d l 0 d.he os).1 (endOf d l 0 d.he os).2 (l.getD i (0, 0, 0)) - (l.getD i (0, 0, 0)).1) + 0) = _
  omega
def dSum (d : Disk) (l : List Ask) (os : List Nat) : PyData := .tuple [.int (allOf d l os), .list ((nints os).map PyData.int)]
theorem alike_sums (d : Disk) (l : List Ask) (oss : List (List Nat)) : PySem.W.AlikeAll (oss.map (dSum d l)) := by
  refine ⟨fun x hx y hy => ?_, fun x hx => ?_⟩
  · obtain ⟨o, _, rfl⟩ := List.mem_map.mp hx
    obtain ⟨o', _, rfl⟩ := List.mem_map.mp hy
    simp [dSum, PySem.W.alike, PySem.W.alikeAll, PySem.W.alike_ints]
  · obtain ⟨o, _, rfl⟩ := List.mem_map.mp hx
    exact fun z => by cases z
theorem depth_sums (d : Disk) (l : List Ask) : ∀ oss : List (List Nat), PyData.depthAll (oss.map (dSum d l)) ≤ 2
  | [] => by simp [PyData.depthAll]
  | o :: r => by
    have h := depth_sums d l r
    have e : PyData.depth (dSum d l o) = 2 := by
      unfold dSum
      simp [PyData.depth, PyData.depthAll, PySem.W.depth_ints]
    rw [List.map_cons, PyData.depthAll, e]
    omega
/-- the least of all orders -/
def leastOf (d : Disk) (l : List Ask) : PyData := match (ordersK l.length l.length).map (dSum d l) with
  | [] => .none
  | x :: r => PySem.W.minD x r
theorem leastOf_eq {d : Disk} {l : List Ask} {x : PyData} {r : List PyData} (h : (ordersK l.length l.length).map (dSum d l) = x :: r) : leastOf d l = PySem.W.minD x r := by
  unfold leastOf
  rw [h]
end Ag

namespace Ag
open PySem PySem.Spec PyProof.Rows L2
theorem ite_eqb {b c : Bool} {A B : Prop} (e : b = c) (h : if c = true then A else B) : if b = true then A else B := by
  rw [e]
  exact h
/-! ### two lists side by side -/
def All2 {α β : Type} (R : α → β → Prop) : List α → List β → Prop
  | [], [] => True
  | a :: as, b :: bs => R a b ∧ All2 R as bs
  | _, _ => False
theorem all2_len {α β : Type} {R : α → β → Prop} : ∀ {as : List α} {bs : List β}, All2 R as bs → as.length = bs.length
  | [], [], _ => rfl
  | _ :: _, _ :: _, h => by simp only [List.length_cons, all2_len h.2]
  | [], _ :: _, h => h.elim
  | _ :: _, [], h => h.elim
theorem all2_mono {α β : Type} {R S : α → β → Prop} (k : ∀ a b, R a b → S a b) : ∀ {as : List α} {bs : List β}, All2 R as bs → All2 S as bs
  | [], [], _ => trivial
  | _ :: _, _ :: _, h => ⟨k _ _ h.1, all2_mono k h.2⟩
  | [], _ :: _, h => h.elim
  | _ :: _, [], h => h.elim
theorem all2_snoc {α β : Type} {R : α → β → Prop} {a : α} {b : β} (r : R a b) : ∀ {as : List α} {bs : List β}, All2 R as bs → All2 R (as ++ [a]) (bs ++ [b])
  | [], [], _ => ⟨r, trivial⟩
  | _ :: _, _ :: _, h => ⟨h.1, all2_snoc r h.2⟩
  | [], _ :: _, h => h.elim
  | _ :: _, [], h => h.elim
theorem all2_app {α β : Type} {R : α → β → Prop} {cs : List α} {ds : List β} (r : All2 R cs ds) : ∀ {as : List α} {bs : List β}, All2 R as bs → All2 R (as ++ cs) (bs ++ ds)
  | [], [], _ => r
  | _ :: _, _ :: _, h => ⟨h.1, all2_app r h.2⟩
  | [], _ :: _, h => h.elim
  | _ :: _, [], h => h.elim
theorem all2_at {α β : Type} {R : α → β → Prop} : ∀ {as : List α} {bs : List β} {i : Nat} {a : α}, All2 R as bs → as[i]? = some a → ∃ b, bs[i]? = some b ∧ R a b
  | [], [], _, _, _, e => by simp at e
  | _ :: _, _ :: _, 0, _, h, e => by simp at e; subst e; exact ⟨_, rfl, h.1⟩
  | _ :: _, _ :: _, i + 1, _, h, e => by
    obtain ⟨b, e1, r⟩ := all2_at (i := i) h.2 (by simpa using e)
    exact ⟨b, by simpa using e1, r⟩
  | [], _ :: _, _, _, h, _ => h.elim
  | _ :: _, [], _, _, h, _ => h.elim
theorem all2_at' {α β : Type} {R : α → β → Prop} : ∀ {as : List α} {bs : List β} {i : Nat} {b : β}, All2 R as bs → bs[i]? = some b → ∃ a, as[i]? = some a ∧ R a b
  | [], [], _, _, _, e => by simp at e
  | _ :: _, _ :: _, 0, _, h, e => by simp at e; subst e; exact ⟨_, rfl, h.1⟩
  | _ :: _, _ :: _, i + 1, _, h, e => by
    obtain ⟨b, e1, r⟩ := all2_at' (i := i) h.2 (by simpa using e)
    exact ⟨b, by simpa using e1, r⟩
  | [], _ :: _, _, _, h, _ => h.elim
  | _ :: _, [], _, _, h, _ => h.elim
theorem all2_dpa {K : PySem.W.Frag} {H : Hp} {β : Type} {R : V → β → Prop} {f : β → PyData} (k : ∀ v b, R v b → Dp K H v (f b)) : ∀ {vs : List V} {bs : List β}, All2 R vs bs → DpAll K H vs (bs.map f)
  | [], [], _ => .nil
  | _ :: _, _ :: _, h => .cons (k _ _ h.1) (all2_dpa k h.2)
  | [], _ :: _, h => h.elim
  | _ :: _, [], h => h.elim
/-- an order, as a list of its own -/
def OrdAt (G : Hp) (v : V) (os : List Nat) : Prop := ∃ o, v = .ref o ∧ G o = some (.lst ((nints os).map V.int))
theorem ordAt_same {G G' : Hp} {v : V} {os : List Nat} (s : Same G G') (h : OrdAt G v os) : OrdAt G' v os := by
  obtain ⟨o, e, h⟩ := h
  exact ⟨o, e, s _ _ h⟩
theorem ordAt_dp {K : PySem.W.Frag} {G : Hp} {v : V} {os : List Nat} (h : OrdAt G v os) : Dp K G v (.list ((nints os).map PyData.int)) := by
  obtain ⟨o, rfl, h⟩ := h
  exact dp_ints_of (SqL.of h)
/-- (waits, order) -/
def SumAt (d : Disk) (l : List Ask) (G : Hp) (v : V) (os : List Nat) : Prop := ∃ m o, v = .ref m ∧ G m = some (.tup [.int (allOf d l os), .ref o]) ∧ G o = some (.lst ((nints os).map V.int))
theorem sumAt_same {d : Disk} {l : List Ask} {G G' : Hp} {v : V} {os : List Nat} (s : Same G G') (h : SumAt d l G v os) : SumAt d l G' v os := by
  obtain ⟨m, o, e, h1, h2⟩ := h
  exact ⟨m, o, e, s _ _ h1, s _ _ h2⟩
theorem sumAt_dp {K : PySem.W.Frag} {d : Disk} {l : List Ask} {G : Hp} {v : V} {os : List Nat} (h : SumAt d l G v os) : Dp K G v (dSum d l os) := by
  obtain ⟨m, o, rfl, h1, h2⟩ := h
  exact .tup (SqT.of h1) (.cons (.int _) (.cons (dp_ints_of (SqL.of h2)) .nil))
/-- ((waits, order), now, here) -/
def LvlAt (d : Disk) (l : List Ask) (G : Hp) (v : V) (os : List Nat) : Prop := ∃ t m, v = .ref t ∧ G t = some (.tup [.ref m, .int (endOf d l 0 d.he os).1, .int (endOf d l 0 d.he os).2]) ∧ SumAt d l G (.ref m) os
theorem lvlAt_same {d : Disk} {l : List Ask} {G G' : Hp} {v : V} {os : List Nat} (s : Same G G') (h : LvlAt d l G v os) : LvlAt d l G' v os := by
  obtain ⟨t, m, e, h1, h2⟩ := h
  exact ⟨t, m, e, s _ _ h1, sumAt_same s h2⟩
theorem take_flat {α β : Type} {f : α → List β} {l : List α} {i : Nat} {x : α} (h : l[i]? = some x) : (l.take (i + 1)).flatMap f = (l.take i).flatMap f ++ f x := by
  rw [take_more h, List.flatMap_append]
  simp
def moreTo (k : Nat) (os : List Nat) : List (List Nat) := ((List.range k).filter fun i => decide (i ∉ os)).map fun i => os ++ [i]
theorem moreTo_in {k : Nat} {os : List Nat} (h : k ∈ os) : moreTo (k + 1) os = moreTo k os := by
  unfold moreTo
  rw [List.range_succ, List.filter_append]
  simp [h]
theorem moreTo_out {k : Nat} {os : List Nat} (h : k ∉ os) : moreTo (k + 1) os = moreTo k os ++ [os ++ [k]] := by
  unfold moreTo
  rw [List.range_succ, List.filter_append]
  simp [h]
theorem nints_snoc (os : List Nat) (n : Nat) : (nints os).map V.int ++ [V.int (n : Int)] = (nints (os ++ [n])).map V.int := by
  unfold nints
  rw [List.map_append, List.map_append]
  rfl
end Ag

namespace Ag
open PySem PySem.Spec PyProof.Rows L2 TL
/-! ### asks as a text -/
def numS (n : Int) : Str := Str.ofString (toString n)
def spS : Str := Str.ofString " "
def nlS : Str := Str.ofString "\n"
def askNs (q : Ask) : List Int := [q.1, q.2.1, q.2.2]
def rowS (q : Ask) : Str := Txt.join spS ((askNs q).map numS)
def textS (l : List Ask) : Str := Txt.join nlS (l.map rowS)
/-- a number of no more than three figures -/
structure Few (n : Int) : Prop where
  lo : 0 ≤ n
  hi : n ≤ 999
theorem figs_all : ∀ n < 1000, 1 ≤ (numL n).length ∧ (numL n).length ≤ 3 ∧ (n ≠ 0 → (numL n).head? ≠ some 48) := by decide +kernel
theorem tl_numS {n : Int} (h : Few n) : ∃ k : Nat, k < 1000 ∧ n = (k : Int) ∧ tl (numS n) = numL k := by
  have h1 := h.lo
  have h2 := h.hi
  refine ⟨n.toNat, by omega, by omega, ?_⟩
  have : n = (n.toNat : Int) := by omega
  unfold numS
  rw [this]
  exact tl_num _
theorem numS_len {n : Int} (h : Few n) : 1 ≤ (numS n).length ∧ (numS n).length ≤ 3 := by
  obtain ⟨k, hk, rfl, e⟩ := tl_numS h
  rw [len_tl, e]
  exact ⟨(figs_all k hk).1, (figs_all k hk).2.1⟩
theorem numS_int {n : Int} (h : Few n) : intText? (numS n) = some n := by
  obtain ⟨k, hk, rfl, e⟩ := tl_numS h
  exact int_num (Nat.le_trans (figs_all k hk).2.1 (by decide))
theorem numS_free {n : Int} (h : Few n) {s : Nat} (hs : s < 48 ∨ 57 < s) : s ∉ tl (numS n) := by
  obtain ⟨k, hk, rfl, e⟩ := tl_numS h
  rw [e]
  exact numL_free hs
theorem numS_sign {n : Int} (h : Few n) {c : Nat} (hc : c ∈ tl (numS n)) : 48 ≤ c ∧ c ≤ 57 := by
  refine ⟨?_, ?_⟩
  · by_cases z : 48 ≤ c
    · exact z
    · exact absurd hc (numS_free h (.inl (by omega)))
  · by_cases z : c ≤ 57
    · exact z
    · exact absurd hc (numS_free h (.inr (by omega)))
theorem figures {c : Nat} (h : 48 ≤ c ∧ c ≤ 57) : c ∈ (Str.ofString "0123456789").cps.toList := by
  have e : (Str.ofString "0123456789").cps.toList = [48, 49, 50, 51, 52, 53, 54, 55, 56, 57] := by decide +kernel
  rw [e]
  obtain ⟨h1, h2⟩ := h
  rcases (by omega : c = 48 ∨ c = 49 ∨ c = 50 ∨ c = 51 ∨ c = 52 ∨ c = 53 ∨ c = 54 ∨ c = 55 ∨ c = 56 ∨ c = 57) with rfl | rfl | rfl | rfl | rfl | rfl | rfl | rfl | rfl | rfl <;> decide
/-- the first sign, and that a nought stands alone -/
theorem numS_head {n : Int} (h : Few n) : ∃ c, atI (numS n).cps.toList 0 = some c ∧ (c = 48 → numS n = Str.ofString "0") := by
  obtain ⟨k, hk, rfl, e⟩ := tl_numS h
  have f := figs_all k hk
  have e' : (numS (k : Int)).cps.toList = numL k := e
  cases hl : numL k with
  | nil => rw [hl] at f; exact absurd f.1 (by decide)
  | cons c r =>
    refine ⟨c, by rw [e', hl]; exact atI_nat (j := 0) rfl, fun z => ?_⟩
    by_cases h0 : k = 0
    · subst h0
      rfl
    · have := f.2.2 h0
      rw [hl, z] at this
      exact absurd rfl this
theorem tl_spS : tl spS = [32] := by decide +kernel
theorem tl_nlS : tl nlS = [10] := by decide +kernel
theorem askNs_few {d : Disk} {q : Ask} (gd : GoodDisk d) (g : GoodAsk d q) : ∀ n ∈ askNs q, Few n := by
  intro n hn
  have h1 := g.c1
  have h2 := g.c2
  have h3 := g.t1
  have h4 := g.t2
  have h5 := g.s1
  have h6 := g.s2
  have h7 := gd.t2
  have h8 := gd.s2
  unfold askNs at hn
  rcases List.mem_cons.mp hn with rfl | hn
  · exact ⟨h1, h2⟩
  · rcases List.mem_cons.mp hn with rfl | hn
    · exact ⟨h3, by omega⟩
    · rcases List.mem_cons.mp hn with rfl | hn
      · exact ⟨h5, by omega⟩
      · cases hn
theorem tl_rowS (q : Ask) : tl (rowS q) = tl (numS q.1) ++ (32 :: (tl (numS q.2.1) ++ (32 :: tl (numS q.2.2)))) := by
  unfold rowS
  rw [join_eq, tl_join, tl_spS]
  rfl
theorem rowS_law (q : Ask) : numS q.1 ++ spS ++ numS q.2.1 ++ spS ++ numS q.2.2 = rowS q := by
  refine ext_tl ?_
  rw [tl_rowS, tl_append, tl_append, tl_append, tl_append, tl_spS]
  simp
theorem rowS_len {q : Ask} (h : ∀ n ∈ askNs q, Few n) : 5 ≤ (rowS q).length ∧ (rowS q).length ≤ 11 := by
  have a := numS_len (h q.1 (by simp [askNs]))
  have b := numS_len (h q.2.1 (by simp [askNs]))
  have c := numS_len (h q.2.2 (by simp [askNs]))
  rw [len_tl] at a b c
  rw [len_tl, tl_rowS]
  simp only [List.length_append, List.length_cons]
  omega
theorem rowS_split {q : Ask} (h : ∀ n ∈ askNs q, Few n) : Txt.split (rowS q) spS = (askNs q).map numS := by
  refine split_join tl_spS (by decide +kernel) (by simp [askNs]) fun p hp => ?_
  obtain ⟨n, hn, rfl⟩ := List.mem_map.mp hp
  exact numS_free (h n hn) (.inl (by decide))
theorem rowS_free {q : Ask} (h : ∀ n ∈ askNs q, Few n) : 10 ∉ tl (rowS q) := by
  have a := numS_free (h q.1 (by simp [askNs])) (s := 10) (.inl (by decide))
  have b := numS_free (h q.2.1 (by simp [askNs])) (s := 10) (.inl (by decide))
  have c := numS_free (h q.2.2 (by simp [askNs])) (s := 10) (.inl (by decide))
  rw [tl_rowS]
  simp [a, b, c]
theorem textS_split {l : List Ask} (h : ∀ q ∈ l, ∀ n ∈ askNs q, Few n) (hl : l ≠ []) : Txt.split (textS l) nlS = l.map rowS := by
  refine split_join tl_nlS (by decide +kernel) (fun e => hl (List.map_eq_nil_iff.mp e)) fun p hp => ?_
  obtain ⟨q, hq, rfl⟩ := List.mem_map.mp hp
  exact rowS_free (h q hq)
theorem textS_nil : textS [] = Str.ofString "" := by decide +kernel
theorem joinL_len (S : List Nat) (k : Nat) : ∀ ps : List (List Nat), (∀ p ∈ ps, p.length ≤ k) → (joinL S ps).length ≤ ps.length * (k + S.length)
  | [], _ => Nat.zero_le _
  | [p], h => by
    show p.length ≤ 1 * (k + S.length)
    have := h p (by simp)
    omega
  | p :: q :: r, h => by
    have ih := joinL_len S k (q :: r) fun z hz => h z (List.mem_cons_of_mem _ hz)
    have := h p (by simp)
    show (p ++ (S ++ joinL S (q :: r))).length ≤ _
    rw [List.length_append, List.length_append, List.length_cons (a := p), Nat.succ_mul]
    omega
theorem textS_len {l : List Ask} (h : ∀ q ∈ l, ∀ n ∈ askNs q, Few n) (hl : l.length ≤ 40) : (textS l).length ≤ 480 := by
  unfold textS
  rw [len_tl, join_eq, tl_join, tl_nlS]
  have := joinL_len [10] 11 ((l.map rowS).map tl) fun p hp => by
    obtain ⟨x, hx, rfl⟩ := List.mem_map.mp hp
    obtain ⟨q, hq, rfl⟩ := List.mem_map.mp hx
    rw [← len_tl]
    exact (rowS_len (h q hq)).2
  rw [List.length_map, List.length_map] at this
  have e : ([10] : List Nat).length = 1 := rfl
  rw [e] at this
  omega
theorem textS_ne {l : List Ask} (h : ∀ q ∈ l, ∀ n ∈ askNs q, Few n) (hl : l ≠ []) : textS l ≠ Str.ofString "" := by
  intro e
  have e2 := textS_split h hl
  rw [e] at e2
  have : Txt.split (Str.ofString "") nlS = [Str.ofString ""] := by decide +kernel
  rw [this] at e2
  cases l with
  | nil => exact hl rfl
  | cons q r =>
    rw [List.map_cons] at e2
    injection e2 with e3 e4
    have := (rowS_len (h q (by simp))).1
    rw [← e3] at this
    exact absurd this (by decide +kernel)
theorem sum_len {k : Nat} : ∀ {ws : List Str}, (∀ x ∈ ws, x.length ≤ k) → (ws.map (·.length)).sum ≤ ws.length * k
  | [], _ => Nat.zero_le _
  | x :: r, h => by
    have ih := sum_len (ws := r) fun z hz => h z (List.mem_cons_of_mem _ hz)
    have := h x (by simp)
    rw [List.map_cons, List.sum_cons, List.length_cons, Nat.succ_mul]
    omega
/-- a comprehension over a text's signs -/
theorem lc_signs {x : Str} {g : TG} {tt : TT} {te : TE} {vs : List Nat} {σ : L2.St} {H1 : Hp} {D : Addr} {Qd : Hp → Prop} (Pv : Nat → Hp → Prop) (h0 : Pv 0 (upd H1 D (.lst [])))
    (hs : ∀ i c H, x.cps[i]? = some c → Pv i H → g (.str ⟨#[c]⟩) (wipe σ vs) H fun σ2 H2 => wipe σ2 vs = wipe σ vs ∧ tt σ2 H2 fun b H3 =>
      if b = true then te σ2 H3 fun y H4 => ∃ acc, H4 D = some (.lst acc) ∧ acc.length < sizeLine ∧ Pv (i + 1) (upd H4 D (.lst (acc ++ [y]))) else Pv (i + 1) H3) (hd : ∀ H, Pv x.cps.size H → Qd H) :
    ∃ W : Nat → Nat → Hp → Prop, (∃ m, W 0 m (upd H1 D (.lst []))) ∧ ∀ i m H, W i m H →
      ((Its x).stop i H ∧ Qd H) ∨ ((Its x).go i H ∧ ∃ Nx : Hp → Prop, (∀ H', Nx H' → ∃ m', m' < m ∧ W (i + 1) m' H') ∧ ∀ y H', (Its x).yld i H y H' → g y (wipe σ vs) H' fun σ2 H2 => wipe σ2 vs = wipe σ vs ∧ tt σ2 H2 fun b H3 =>
        if b = true then te σ2 H3 fun y H4 => ∃ acc, H4 D = some (.lst acc) ∧ acc.length < sizeLine ∧ Nx (upd H4 D (.lst (acc ++ [y]))) else Nx H3) := by
  refine ⟨fun i m H => m = x.cps.size - i ∧ i ≤ x.cps.size ∧ Pv i H, ⟨x.cps.size, by simp, Nat.zero_le _, h0⟩, ?_⟩
  rintro i m H ⟨rfl, hi, p⟩
  by_cases hlt : i < x.cps.size
  · refine .inr ⟨hlt, Pv (i + 1), fun H' p' => ⟨x.cps.size - (i + 1), by omega, rfl, hlt, p'⟩, fun y H' hy => ?_⟩
    obtain ⟨e, c, hc, rfl⟩ := hy
    subst e
    exact hs i c _ hc p
  · have e : i = x.cps.size := by omega
    subst e
    exact .inl ⟨Nat.le_refl _, hd H p⟩
def rJoinK (K : PySem.W.Frag) : V → List V → Hp → VK → Prop := fun x xs H Q => ∃ a p, ∃ ys : List Str, x = .str a ∧ xs = [.ref p] ∧ (SqL K H p (ys.map V.str) ∨ SqT K H p (ys.map V.str)) ∧
      (ys.map (·.length)).sum + ys.length * a.length ≤ 16777216 ∧ Q (.str (Txt.join a ys)) H
/-- join within a block -/
theorem pe_joinK {X : Cx} {o e : Expr} {to te : TE} {K : PySem.W.Frag} {apos pos : Pos} (ho : PE X o to) (he : PE X e te) (hK : X.K = K := by rfl) (hs : starEach [e] X.env = [(false, eval e X.env)] := by rfl) (hbase : attributeBase o "join" X.env (eval o X.env) = eval o X.env := by rfl) (hline : (apos.endLine == pos.line) = true := by rfl) :
    PE X (.Call (.Attribute o "join" apos) [e] [] pos) (tM1 (rJoinK K) to te) := by
  subst hK
  exact pe_join ho he hs hbase hline
theorem log2_small {n : Int} (h : Few n) : n.natAbs.log2 < 1920 := by
  have h1 := h.lo
  have h2 := h.hi
  by_cases z : n.natAbs = 0
  · rw [z]; decide
  · have := (Nat.log2_lt z (k := 10)).mpr (by omega)
    omega
end Ag

namespace Ag
open PySem PySem.Spec PyProof.Rows L2
/-! ### an exception out of a comprehension's element -/
/-- what a called def lets out, in a comprehension's block, goes on from the def's own hand -/
theorem comp_pass {X : Cx} {W : XK} {s3 s s' : Shared} {H3 H' : Hp} {scope : Scope} {ce : Env} {fp : List Addr} {xe : Value → Shared → Prop} {pins pin2 : List (Addr × Obj)} {σ σ' : L2.St} {e : Value}
    (hs : X.stack = X.env :: X.outer) (hf : X.env.frame = some X.env.locals) (cf : ce.frame = X.env.frame) (cL : ce.locals = s3.heap.objs.size) (tk : Takes X fun cls d _ H => W cls d H)
    (I3 : Inv X pins σ H3 s3) (f3 : ∀ b ∈ fp, FpOk X pins H3 b) (I' : Inv ((X.blk s3 H3 scope ce fp).wish xe) pin2 σ' H' s) (c : CX X.prog X.w X.stack H' s W e s') :
    notedBy (model X.prog X.w) X.A ce (CompFails (model X.prog X.w) X.A X.xe ce) e s' := by
  have Io : Inv X pins σ H' s := I3.call' (ch := fp) I'.os I'.base I'.hok I'.bare fun b hb => ⟨(f3 b hb).2.2.2.1, (f3 b hb).2.1, (f3 b hb).2.2.2.2.1, (f3 b hb).2.2.2.2.2⟩
  obtain ⟨a, B, H2, cls, d, rfl, fl, hok, ub, na, os, ag, hE⟩ := c
  have hfr : X.A.frames = some (X.env :: X.outer) := by rw [Io.ok.frames, hs]
  -- the block's dict of names
  obtain ⟨m, ⟨oC, es, ep, hoC, hdC, rC⟩, _⟩ := I'.loc
  have hoC : s.heap.get? ce.locals = some oC := hoC
  have nCf : ce.locals ∉ frs X.stack := fun hm => by
    obtain ⟨_, o2, e2, _⟩ := I3.stack.mem hm
    have := Heap.lt_size e2
    rw [cL] at this
    exact absurd this (Nat.lt_irrefl _)
  have nC : H' ce.locals = none := I'.free
  have bC : B.get? ce.locals = some oC := ub.keep _ _ hoC nC nCf
  have nC2 : H2 ce.locals = none := ub.free _ _ hoC nC
  have fC : FpOk X pins H' ce.locals := I3.fpOk (by rw [cL]; exact Nat.le_refl _) nC
  obtain ⟨B2, k1, k2⟩ := restrict B fun b => decide (b ≠ ce.locals)
  have kB : ∀ b, b ≠ ce.locals → B2.get? b = B.get? b := fun b hb => k1 b (decide_eq_true hb)
  have kC : B2.get? ce.locals = none := k2 _ (by simp)
  have sub : ∀ {b o}, B2.get? b = some o → b ≠ ce.locals ∧ B.get? b = some o := fun {b o} q => by
    have n : b ≠ ce.locals := fun z => by rw [z, kC] at q; cases q
    exact ⟨n, (kB b n).symm.trans q⟩
  show wpAny _ _ (noteFrame (.ref a) ce) _ _ s'
  rw [noteFrame_env _ cf]
  rw [hs] at fl
  refine HandSPX.looks_onZ Zc.steady hfr hf fl fun h1 hh up1 => ?_
  obtain ⟨g1, g2, g3, oe, vs, T, oT, ts, he, hz, hd, hv, hT0, hTe, hT, hdT, h3t⟩ := hh
  refine ⟨m, ⟨oC, es, ep, g1 _ _ bC, hdC, rC⟩, fun h2 m2 hn2 hs2 => ?_⟩
  have hn2 : h2.Ns ce.locals m2 := hn2
  have nea : a ≠ ce.locals := fun z => by rw [z, bC] at g2; cases g2
  have neT : T ≠ ce.locals := fun z => by rw [z, bC] at hT0; cases hT0
  have b2a : B2.get? a = none := by rw [kB a nea]; exact g2
  have stay2 : B2.StaysIn h2 := fun b o q => by
    obtain ⟨n, q2⟩ := sub q
    exact (hs2.2 b n).trans (g1 b o q2)
  have ff2 : h2.FunFrames B2 (X.env :: X.outer) := by
    have z := Heap.FunFrames.sameBut hs2 hn2 g3
    refine funFrames_none z fun L hL => ?_
    have hm := (z.mem hL).1
    by_cases n : L = ce.locals
    · rw [n]; exact kC
    · rw [kB L n]; exact hm
  have held2 : HandSPX.HeldZ B2 (X.env :: X.outer) a (Zc cls d) X.env.locals h2 :=
    ⟨stay2, b2a, ff2, oe, vs, T, oT, ts, (hs2.2 a nea).trans he, hz, hd, hv, by rw [kB T neT]; exact hT0, hTe, (hs2.2 T neT).trans hT, hdT, h3t⟩
  unfold PySem.passOn
  refine wpAny_bind (wpAny_field ((hs2.2 a nea).trans he) hd hv ?_)
  rw [if_neg (show ¬ ((Value.ref T == Value.none) = true) from by simp)]
  rw [cf, hf]
  refine wpAny_bind (HandSPX.setFlight_onZ held2 fun h3 hh3 up3 => ?_)
  refine wpAny_throw (tk _ _ ?_)
  -- the state without the exception and the block's names
  obtain ⟨G, j1, j2⟩ := restrict h3 fun b => (B2.get? b).isSome || decide (b ∈ frs X.stack)
  have gB : ∀ b o, B2.get? b = some o → G.get? b = some o := fun b o q => by
    rw [j1 b (by simp [q])]
    exact hh3.1 b o q
  have gF : ∀ b, b ∈ frs X.stack → G.get? b = h3.get? b := fun b hb => j1 b (by simp [hb])
  have og : ∀ b o, G.get? b = some o → h3.get? b = some o ∧ ((B2.get? b).isSome = true ∨ b ∈ frs X.stack) := fun b o q => by
    cases z : ((B2.get? b).isSome || decide (b ∈ frs X.stack)) with
    | false => rw [j2 b z] at q; cases q
    | true =>
      rw [j1 b z] at q
      exact ⟨q, by simpa [Bool.or_eq_true] using z⟩
  have slots : ∀ b o, s.heap.get? b = some o → b ∈ frs X.stack → ∃ sl, G.get? b = some { o with slots := sl } := fun b o q hb => by
    obtain ⟨_, o2, e2, hnf⟩ := Io.stack.mem hb
    rw [q] at e2
    cases e2
    obtain ⟨sl1, q1⟩ := ub.slot b o q hb
    obtain ⟨sl2, q2⟩ := up1 b _ q1 hnf
    have n : b ≠ ce.locals := fun z => nCf (z ▸ hb)
    obtain ⟨sl3, q3⟩ := up3 b _ ((hs2.2 b n).trans q2) hnf
    exact ⟨sl3, by rw [gF b hb]; exact q3⟩
  have U : Un (frs X.stack) [ce.locals] H' H2 s.heap G := {
    keep := fun b o q n hb hx => gB b o (by rw [kB b (by simpa using hx)]; exact ub.keep b o q n hb)
    slot := fun b o q n hb hx => slots b o q hb
    free := fun b o q n _ => ub.free b o q n
    there := fun b o q hx => by
      by_cases hb : b ∈ frs X.stack
      · obtain ⟨sl, z⟩ := slots b o q hb
        exact ⟨_, z⟩
      · obtain ⟨o', z⟩ := ub.there b o q hb
        exact ⟨o', gB b o' (by rw [kB b (by simpa using hx)]; exact z)⟩
    tups := ub.tups
    frzs := ub.frzs
    tbls := ub.tbls }
  have hokG : HOk X.prog X.w H2 G := fun b u q => (hok b u q).stay (fun c v hc r => gB c v (by
    have n : c ≠ ce.locals := fun z => by
      rcases hc with hc | hc
      · rw [← hc, z, nC2] at q; cases q
      · rw [z, nC2] at hc; cases hc
    rw [kB c n]
    exact r)) (fun _ r => r) fun _ _ r => r
  have J : Inv X pins σ H2 ({ s' with heap := G } : Shared) := Io.call' (ch := [ce.locals]) os U hokG ag fun b hb => by
    have e : b = ce.locals := by simpa using hb
    subst e
    exact ⟨fC.2.2.2.1, fC.2.1, fC.2.2.2.2.1, fC.2.2.2.2.2⟩
  refine ⟨a, B2, ({ s' with heap := G } : Shared), pins, σ, H2, cls, d, rfl, J, fun b o q hb => ?_, Heap.UpToSlots.of_keeps fun b o q => (og b o q).1, .inr (.inr (by rw [hs]; exact hh3)), na, rfl, ag, hE⟩
  obtain ⟨e', h⟩ := og b o q
  rcases h with h | h
  · obtain ⟨o', z⟩ := Option.isSome_iff_exists.mp h
    have y := hh3.1 b o' z
    rw [e'] at y
    cases y
    exact z
  · exact absurd h hb
section
variable {X : Cx}
/-- [elt for tg in iter], the element a call that may raise; W: the def's wish of what leaves it -/
theorem pe_lcX {elt tg iter : Expr} {scope : Scope} {own : List (Str × Nat)} {pos : Pos} {wi : TI} {g : TG} {te : TE} {W : XK} (ho : X.stack = X.env :: X.outer) (hf : X.env.frame = some X.env.locals) (tk : Takes X fun cls d _ H => W cls d H)
    (hc : X.calm = true) (hN : X.N.Nodup) (hi : PI X tg iter wi) (ok : BlkOk X.N X.env.scope scope own)
    (hg : ∀ (s : Shared) (H : Hp) (C : Addr) (cl : List (Str × Addr)) (fp : List Addr) (xe : Value → Shared → Prop), PG ((X.blk s H scope (compEnvC scope cl C X.env) fp).wish xe) tg g)
    (he : ∀ (s : Shared) (H : Hp) (C : Addr) (cl : List (Str × Addr)) (fp : List Addr) (xe : Value → Shared → Prop), (∀ σ', PassesAt (L2.CX X.prog X.w) ((X.blk s H scope (compEnvC scope cl C X.env) fp).wish xe) σ' W) →
      PE ((X.blk s H scope (compEnvC scope cl C X.env) fp).wish xe) elt te)
    (hs : ∀ x, foldedSetIterable iter X.env x = pure x := by intro _; rfl) : PE X (.ListComp elt [⟨tg, iter, [], 0⟩] scope pos) (tLc wi g tYes te (own.map (·.2))) := by
  refine ⟨fun pins s σ H Q I h => ?_⟩
  rw [eval_ListComp]
  have has : ∀ y ∈ scope.names, y.2 = .free → ∃ c, X.env.cells.lookup y.1 = some c := fun y hy e => by
    rcases ok.free y hy e with k | k
    · exact I.ok.has _ (Or.inl k)
    · exact I.ok.has _ (Or.inr k)
  refine comprehension_at (use := none) rfl hs (closure_ok has) ok.kind (fun y hy e => by rw [ok.uniq y hy, e]) ?_
  refine thn (hi.run pins s σ H _ I h) fun xv s1 hx => thn hx fun itv s2 h2 => ?_
  obtain ⟨it, fp, tn, J, H2, e, I2, T, st2, f2, q⟩ := h2
  subst e
  refine wpAny_newObj_type (newEnv_comp ?_) (by show 0 ≤ sizeLine; decide)
  obtain ⟨D, hD⟩ : ∃ D, s2.heap.objs.size = D := ⟨_, rfl⟩
  rw [hD]
  have hDn : H2 D = none := I2.hok.fresh (by rw [hD]; exact Nat.le_refl _)
  obtain ⟨Wm, ⟨m0, w0⟩, turn⟩ := q D hDn
  generalize e3 : ({ s2 with heap := s2.heap.push { cls := .type "list", data := .seq ([] : List Value).toArray } } : Shared) = s3
  have h3 : s3.heap = s2.heap.push { cls := .type "list", data := .seq ([] : List Value).toArray } := by rw [← e3]
  have I3 : Inv X pins σ (upd H2 D (.lst [])) s3 := by
    rw [← e3]
    exact I2.laid (t' := s2.toks) (fun b o z => Heap.get?_push_of_some _ z) (by rw [hD]; exact Nat.le_refl _) ⟨Nat.zero_le _, [], 0, .nil, by rw [← hD]; exact Heap.get?_push_size _ rfl⟩
  have f3 : ∀ b ∈ fp, FpOk X pins (upd H2 D (.lst [])) b ∧ b < s3.heap.objs.size := fun b hb => by
    obtain ⟨o, z, _⟩ := T.obj _ _ st2 b hb
    have lt := Heap.lt_size z
    rw [hD] at lt
    refine ⟨⟨by rw [upd_ne (Nat.ne_of_lt lt)]; exact (f2 b hb).1, (f2 b hb).2⟩, ?_⟩
    rw [h3, Heap.size_push, hD]
    exact Nat.lt_succ_of_lt lt
  have st3 : tn 0 s3.heap := T.keep _ _ _ st2 fun b _ o z => by
    rw [h3]
    exact Heap.get?_push_of_some _ z
  have I4 := block_start I3 ok hN f3
  have pg := hg s3 (upd H2 D (.lst [])) s3.heap.objs.size (cellsFrom (s3.heap.objs.size + 1) scope.names (cloFrom X.env.cells scope.names [])) fp
  have pe := he s3 (upd H2 D (.lst [])) s3.heap.objs.size (cellsFrom (s3.heap.objs.size + 1) scope.names (cloFrom X.env.cells scope.names [])) fp
  show codeAny _ _ (.compStart (.ListComp elt [⟨tg, iter, [], 0⟩] scope pos) 0 (.ref it) (.ref D) (compEnvC scope (cellsFrom (s3.heap.objs.size + 1) scope.names (cloFrom X.env.cells scope.names [])) s3.heap.objs.size X.env))
    (compEnds (model X.prog X.w) X.A X.xe none (EP X pins σ Q) (.ref D) (compEnvC scope (cellsFrom (s3.heap.objs.size + 1) scope.names (cloFrom X.env.cells scope.names [])) s3.heap.objs.size X.env)) { s3 with heap := pushCells (s3.heap.push { cls := .type "dict", data := .dict #[] }) scope.names }
  have cf : (compEnvC scope (cellsFrom (s3.heap.objs.size + 1) scope.names (cloFrom X.env.cells scope.names [])) s3.heap.objs.size X.env).frame = X.env.frame := rfl
  have cL : (compEnvC scope (cellsFrom (s3.heap.objs.size + 1) scope.names (cloFrom X.env.cells scope.names [])) s3.heap.objs.size X.env).locals = s3.heap.objs.size := rfl
  have nfp : ∀ b ∈ fp, (upd H2 D (.lst [])) b = none := fun b hb => (f3 b hb).1.1
  generalize compEnvC scope (cellsFrom (s3.heap.objs.size + 1) scope.names (cloFrom X.env.cells scope.names [])) s3.heap.objs.size X.env = ce at I4 pg pe cf cL ⊢
  generalize upd H2 D (.lst []) = H3 at I3 I4 pg pe w0 nfp f3
  generalize e4 : ({ s3 with heap := pushCells (s3.heap.push { cls := .type "dict", data := .dict #[] }) scope.names } : Shared) = s4 at I4 ⊢
  have st4 : tn 0 s4.heap := T.keep _ _ _ st3 fun b _ o z => by
    rw [← e4]
    exact pushCells_keeps _ _ _ _ (Heap.get?_push_of_some _ z)
  -- what the element lets out
  obtain ⟨xe, hxe⟩ : ∃ xe : Value → Shared → Prop, xe = notedBy (model X.prog X.w) X.A ce (CompFails (model X.prog X.w) X.A X.xe ce) := ⟨_, rfl⟩
  have pg := pg xe
  have pe := pe xe fun σ' pin2 H' s' e s'' I' c => by
    show xe e s''
    rw [hxe]
    exact comp_pass ho hf cf cL tk I3 (fun b hb => (f3 b hb).1) I' c
  have I4 := I4.wish xe
  have stat : ∀ {σ' : L2.St} {H' : Hp} {s' : Shared}, Inv ((X.blk s3 H3 scope ce fp).wish xe) [] σ' H' s' → (∀ b ∈ fp, H' b = none) → ∀ b ∈ fp, FpOk ((X.blk s3 H3 scope ce fp).wish xe) [] H' b := fun {σ' H' s'} I' hn b hb =>
    ⟨hn b hb, (I'.ok.exf b hb).1, I'.ok.exfs b hb, Or.inl hb, fun x c z => (I'.ok.exf b hb).2 x c z, fun p hp => absurd (show p ∈ ([] : List (Addr × Obj)) ++ [] from hp) (by simp)⟩
  have loop : codeAny (model X.prog X.w) X.A (.compLoop (.ListComp elt [⟨tg, iter, [], 0⟩] scope pos) 0 (.ref it) (.ref D) ce) (compEnds (model X.prog X.w) X.A X.xe none (EP X pins σ Q) (.ref D) ce) s4 := by
    refine compLoop_any (fun n s' => ∃ i H', Inv ((X.blk s3 H3 scope ce fp).wish xe) [] (wipe σ (own.map (·.2))) H' s' ∧ tn i s'.heap ∧ (∀ b ∈ fp, H' b = none) ∧ Wm i n H') ?_ m0 ⟨0, H3, I4, st4, nfp, w0⟩
    rintro n s5 ⟨i, H5, I5, st5, n5, w5⟩
    have toX : ∀ {α : Type} {m : Sem α} {Q1 : α → Shared → Prop} {s' : Shared}, wpAny (model X.prog X.w) X.A m Q1 xe s' → wpAny (model X.prog X.w) X.A m Q1 (notedBy (model X.prog X.w) X.A ce fun e s' => compEnds (model X.prog X.w) X.A X.xe none (EP X pins σ Q) (.ref D) ce (.error e) s') s' := fun hw => by
      rw [hxe] at hw
      exact hw
    rcases turn i n H5 w5 with ⟨stop, qq⟩ | ⟨go, Nx, hNx, step⟩
    · refine thnF (T.done ((X.blk s3 H3 scope ce fp).wish xe) rfl rfl rfl hc i [] s5 _ H5 (fun _ _ => False) I5 (stat I5 n5) st5 stop) fun r s6 ⟨hr, I6⟩ => ?_
      subst hr
      have I7 : Inv X pins σ H5 s6 := I3.call' (ch := fp) I6.os I6.base I6.hok I6.bare fun b hb => ⟨(f3 b hb).1.2.2.2.1, (f3 b hb).1.2.1, (f3 b hb).1.2.2.2.2.1, (f3 b hb).1.2.2.2.2.2⟩
      have nC : H5 ce.locals = none := I6.free
      obtain ⟨m, hn, _⟩ := I6.loc
      obtain ⟨f0, f1, _, f4, f5, f6⟩ := I3.fpOk (H' := H5) (b := ce.locals) (by rw [cL]; exact Nat.le_refl _) nC
      exact ⟨m, hn, fun h' sb => ⟨.ref D, H5, I7.turned (t' := s6.toks) (fun b o hb z => (sb.2 b hb).trans z) f0 f1 f4 f5 f6, rfl, qq⟩⟩
    · refine thnF (T.item ((X.blk s3 H3 scope ce fp).wish xe) rfl rfl rfl hc i [] s5 _ H5 (fun _ _ => False) I5 (stat I5 n5) st5 go) fun r s6 ⟨u, hr, h6⟩ => ?_
      subst hr
      refine thnF h6 fun _ s7 ⟨x, H7, I7, r7, y7, st7, n7⟩ => ?_
      have Ip := I7.pinned (stat I7 n7) (T.obj _ _ st7)
      refine toX (thn (pg.run _ s7 _ H7 x u _ Ip r7 (step x H7 y7)) fun _ s8 ⟨σ8, H8, I8, hw8, q8⟩ => ?_)
      refine wpAny_tests_nil ?_
      rw [if_pos rfl]
      have q9 : te σ8 H8 fun y H4 => ∃ acc, H4 D = some (.lst acc) ∧ acc.length < sizeLine ∧ Nx (upd H4 D (.lst (acc ++ [y]))) := q8
      refine toX (thn (pe.run _ s8 σ8 H8 _ I8 q9) fun z s10 hz => ?_)
      obtain ⟨yv, H10, I10, r10, acc, hD10, hz10, nx⟩ := hz
      refine app_ok (X := (X.blk s3 H3 scope ce fp).wish xe) I10 hD10 hz10 r10 fun s11 I11 => ?_
      obtain ⟨m', hm, w'⟩ := hNx _ nx
      have pin' : ∀ b ∈ fp, ∀ o, s7.heap.get? b = some o → s11.heap.get? b = some o ∧ upd H10 D (.lst (acc ++ [yv])) b = none := fun b hb o z =>
        let y := I11.pin (b, o) (List.mem_append_right _ (List.mem_append_right _ (mem_pinsAt hb z)))
        ⟨y.1, y.2.1⟩
      have hl : (wipe σ (own.map (·.2))).length = σ8.length := by rw [← hw8, wipe_length]
      refine ⟨m', hm, i + 1, _, (I11.unpinned (pins := [])).weak hl (fun j v z => ?_), T.keep _ _ _ st7 fun b hb o z => (pin' b hb o z).1, fun b hb => ?_, w'⟩
      · rw [← hw8] at z
        exact (wipe_some z).1
      · obtain ⟨o, z, _⟩ := T.obj _ _ st7 b hb
        exact (pin' b hb o z).2
  exact codeAny_compStart_list loop (T.self X.A 0 _ _ _ st4 loop)
end
end Ag

namespace Ag
open PySem PySem.Spec PyProof.Rows L2
/-! ### own errors with a field: made, raised, asked -/
/-- what a class between must say, so that its __init__ is ValueError's -/
structure CInit (K : PySem.W.Frag) (CA : Addr) : Prop where
  ga : PySem.W.specialIn K (.ref CA) "__getattribute__" = some (some (.builtin "type.__getattribute__"))
  rd : PySem.W.readsIn K CA (.type "type") = true
  at_ : PySem.W.findCls K (.ref CA) (.type "type") "__init__" = some (.val (.builtin "ValueError.__init__"))
def cinitB (K : PySem.W.Frag) (CA : Addr) : Bool := decide (PySem.W.specialIn K (.ref CA) "__getattribute__" = some (some (.builtin "type.__getattribute__"))) && (PySem.W.readsIn K CA (.type "type") &&
  (match PySem.W.findCls K (.ref CA) (.type "type") "__init__" with | some (.val v) => decide (v = .builtin "ValueError.__init__") | _ => false))
theorem cinitB_ok {K : PySem.W.Frag} {CA : Addr} (h : cinitB K CA = true) : CInit K CA := by
  obtain ⟨h1, h⟩ := Bool.and_eq_true_iff.mp h
  obtain ⟨h2, h3⟩ := Bool.and_eq_true_iff.mp h
  refine ⟨of_decide_eq_true h1, h2, ?_⟩
  split at h3
  · rename_i v e
    rw [e, of_decide_eq_true h3]
  · cases h3
/-- CA.__init__(self, ..) -/
theorem pe_cinit {X : Cx} {x0 : Str} {CA : Addr} {e : Expr} {es : List Expr} {ta : TA} {p1 p2 pos : Pos} {pl : Sem Bool} (T : CInit X.K CA) (hg : Gl X x0) (hm : X.mg x0 = some (.ref CA)) (ha : PA X (e :: es) ta)
    (hdb : (x0 == ("__debug__" : Str)) = false := by decide)
    (hc : eval (.Call (.Attribute (.Name x0 p1) "__init__" p2) (e :: es) [] pos) X.env = (do
      let ov ← eval (.Name x0 p1) X.env
      standAt p2.atName
      let (f, first) ← holding [ov] (getMethod ov "__init__" pl)
      callWith pos f first (backTo pos (starEach (e :: es) X.env)) (backToKw pos (keywordEach [] X.env))) := by rfl)
    (he : starEach (e :: es) X.env = (false, eval e X.env) :: starEach es X.env := by rfl) (hpl : (backTo pos (starEach es X.env)).any (·.1) = false := by rfl) :
    PE X (.Call (.Attribute (.Name x0 p1) "__init__" p2) (e :: es) [] pos) (tVeI X.K ta) := by
  refine ⟨fun pins s σ H Q I h => ?_⟩
  refine PySem.W.methodCall_KW (ld_glob I hg hm ?_ hdb) hc
  refine PySem.W.method_cls I.kIn T.ga (PySem.W.cls_value I.kIn T.rd T.at_ (by decide +kernel) ?_)
  show wpAny _ _ (callWith pos (Value.builtin "ValueError.__init__") [] (backTo pos (starEach (e :: es) X.env)) []) _ _ _
  refine PyProof.Rows.callWith_method1 (thn (ha.run pos pins _ σ H _ (I.tok _) h) fun us s1 hu => ?_) he hpl
  obtain ⟨vs, H1, I1, r1, a, C, ws, ev, hl, TC, ea, q⟩ := hu
  subst ev
  cases r1 with
  | @cons _ u0 _ ur ra rr =>
    cases (show u0 = Value.ref a from ra)
    exact oinit_ok TC I1 ea (by rw [← Paired.length rr, sizeLine_eq]; omega) fun s2 J => ⟨.non, H1, J, rfl, q⟩
/-- a class with an __init__ of its own, over ValueError -/
def oexB (K : PySem.W.Frag) (C : Addr) : Bool := (match K.lookup C with
  | some ⟨.type "type", _, .cls cd, sl⟩ => (match cd.mro, sl.toList with
    | .ref C' :: bm, [_, _, _, _, some (.builtin n), _] => decide (C' = C) && (decide (n = "ValueError.__new__") && (cd.hasDict && (!cd.hasDel && HandSPX.refsVE bm)))
    | _, _ => false)
  | _ => false) && (decide (PySem.W.findIn K (.ref C) "__setattr__" = some (some (.builtin "object.__setattr__"))) && (decide (PySem.W.subIn K (.ref C) (.type "BaseException") = some true) && (decide (PySem.W.typeIn K (.ref C) = some (.type "type")) && PySem.W.keepIn K (.ref C))))
theorem oexB_ok {K : PySem.W.Frag} {C : Addr} (h : oexB K C = true) : OexC K C := by
  obtain ⟨h1, h⟩ := Bool.and_eq_true_iff.mp h
  obtain ⟨h2, h⟩ := Bool.and_eq_true_iff.mp h
  obtain ⟨h3, h⟩ := Bool.and_eq_true_iff.mp h
  obtain ⟨h4, h5⟩ := Bool.and_eq_true_iff.mp h
  refine ⟨?_, of_decide_eq_true h2, of_decide_eq_true h3, of_decide_eq_true h4, h5⟩
  split at h1
  · rename_i dd cd sl ho
    split at h1
    · rename_i C' bm k0 k1 k2 k3 n k5 hm hs
      obtain ⟨e1, h1⟩ := Bool.and_eq_true_iff.mp h1
      obtain ⟨e2, h1⟩ := Bool.and_eq_true_iff.mp h1
      obtain ⟨e3, h1⟩ := Bool.and_eq_true_iff.mp h1
      obtain ⟨e4, e5⟩ := Bool.and_eq_true_iff.mp h1
      have e1 := of_decide_eq_true e1
      have e2 := of_decide_eq_true e2
      have e6 : cd.hasDel = false := by simpa using e4
      clear e4
      subst e1 e2
      obtain ⟨nm, bs, mro, ns, qn, hd, sn, sub, ab, col, del⟩ := cd
      dsimp only at hm e3 e6
      subst hm e3 e6
      have hsl : sl = #[k0, k1, k2, k3, some (.builtin "ValueError.__new__"), k5] := by
        obtain ⟨l⟩ := sl
        simp only at hs
        rw [hs]
      subst hsl
      exact ⟨nm, qn, ns, bs, bm, sn, sub, ab, col, dd, k0, k1, k2, k3, k5, ho, e5⟩
    · cases h1
  · cases h1
/-- what the class says of isinstance and of fields -/
structure ExcX (K : PySem.W.Frag) (D : Addr) : Prop where
  cl : (PySem.W.clsIn K D).isSome = true
  hg : PySem.W.findIn K (.ref D) "__getattribute__" = some (some (.builtin "BaseException.__getattribute__"))
  hk : PySem.W.findIn K (.ref D) "__getattr__" = some none
  hs : PySem.W.subIn K (.ref D) (.type "BaseException") = some true
  ha : PySem.W.findIn K (.ref D) "__class__" = some (some (.builtin "object.__class__"))
  hn : PySem.W.specialIn K (.builtin "object.__class__") "__get__" = some (some (.builtin "getset_descriptor.__get__"))
  ht : PySem.W.takesIn K (.builtin "object.__class__") = some true
  hm : PySem.W.mroIn K D (.type "object") = some true
def excXB (K : PySem.W.Frag) (D : Addr) : Bool := (PySem.W.clsIn K D).isSome && (decide (PySem.W.findIn K (.ref D) "__getattribute__" = some (some (.builtin "BaseException.__getattribute__"))) && (decide (PySem.W.findIn K (.ref D) "__getattr__" = some none) &&
  (decide (PySem.W.subIn K (.ref D) (.type "BaseException") = some true) && (decide (PySem.W.findIn K (.ref D) "__class__" = some (some (.builtin "object.__class__"))) && (decide (PySem.W.specialIn K (.builtin "object.__class__") "__get__" = some (some (.builtin "getset_descriptor.__get__"))) &&
  (decide (PySem.W.takesIn K (.builtin "object.__class__") = some true) && decide (PySem.W.mroIn K D (.type "object") = some true)))))))
theorem excXB_ok {K : PySem.W.Frag} {D : Addr} (h : excXB K D = true) : ExcX K D := by
  obtain ⟨h1, h⟩ := Bool.and_eq_true_iff.mp h
  obtain ⟨h2, h⟩ := Bool.and_eq_true_iff.mp h
  obtain ⟨h3, h⟩ := Bool.and_eq_true_iff.mp h
  obtain ⟨h4, h⟩ := Bool.and_eq_true_iff.mp h
  obtain ⟨h5, h⟩ := Bool.and_eq_true_iff.mp h
  obtain ⟨h6, h⟩ := Bool.and_eq_true_iff.mp h
  obtain ⟨h7, h8⟩ := Bool.and_eq_true_iff.mp h
  exact ⟨h1, of_decide_eq_true h2, of_decide_eq_true h3, of_decide_eq_true h4, of_decide_eq_true h5, of_decide_eq_true h6, of_decide_eq_true h7, of_decide_eq_true h8⟩
/-- the caught error's own dict, as the heap has it -/
def DictOf (d : Option Addr) (H : Hp) : Prop := d = none ∨ ∃ dd fs, d = some dd ∧ H dd = some (.xd fs)
/-- isinstance(e, c), e the caught error -/
def rIsX (K : PySem.W.Frag) (a : Addr) (cls : Value) (d : Option Addr) : List V → Hp → VK → Prop := fun xs H Q => ∃ (D : Addr) (c : V) (u : Value) (b : Bool), xs = [.ref a, c] ∧ cls = .ref D ∧ ExcX K D ∧ DictOf d H ∧ ClsV c u ∧ PySem.W.kitOne K (.ref D) u = some b ∧ Q (.bl b) H
/-- isinstance(e, (c1, ..)) -/
def rIsXT (K : PySem.W.Frag) (a : Addr) (cls : Value) (d : Option Addr) : List V → Hp → VK → Prop := fun xs H Q => ∃ (D tp : Addr) (cs : List V) (us : List Value) (b : Bool), xs = [.ref a, .ref tp] ∧ cls = .ref D ∧ ExcX K D ∧ DictOf d H ∧ H tp = some (.tup cs) ∧ Paired ClsV cs us ∧
  PySem.W.kitAny K (.ref D) us = some b ∧ Q (.bl b) H
section
variable {X : Cx} {a : Addr} {oe : Obj} {pn pins : List (Addr × Obj)} {cls : Value} {d : Option Addr} {K : PySem.W.Frag}
theorem inst_of {D : Addr} {σ : L2.St} {H : Hp} {s : Shared} (hz : Zc (.ref D) d oe) (hf : ∃ vs, oe.data = .fields vs) (I : Inv (X.suite a ((a, oe) :: pn)) pins σ H s) (hd : DictOf d H) : ∃ od, PySem.W.InstAt s.heap a oe D od := by
  obtain ⟨hget, _⟩ := I.pin (a, oe) (List.mem_append.mpr (Or.inl List.mem_cons_self))
  obtain ⟨vs, hv⟩ := hf
  obtain ⟨oc, odi, oda, osl⟩ := oe
  obtain ⟨h1, h2⟩ := hz
  dsimp only at h1 h2 hv
  subst h1 h2 hv
  rcases hd with rfl | ⟨dd, fs, rfl, hx⟩
  · exact ⟨none, hget, rfl, rfl, trivial⟩
  · obtain ⟨mA, hns, _⟩ := (show ObjOk X.prog X.w H s.heap dd (.xd fs) from I.hok dd _ hx)
    obtain ⟨od, ho, _⟩ := lookIn_ns hns
    exact ⟨some od, hget, rfl, rfl, ho⟩
theorem call_isX (hz : Zc cls d oe) (hf : ∃ vs, oe.data = .fields vs) (hK : X.K = K := by rfl) : CallR (X.suite a ((a, oe) :: pn)) (.builtin "isinstance") (rIsX K a cls d) := by
  subst hK
  intro pins s σ H xs us Q I r h
  obtain ⟨D, c, u, b, rfl, rfl, C, hd, k, e, q⟩ := h
  obtain ⟨u1, u2, rfl, r1, r2⟩ := vals2 r
  cases (show u1 = Value.ref a from r1)
  have e2 := k.eq r2
  subst e2
  obtain ⟨od, J⟩ := inst_of hz hf I hd
  exact PySem.W.kia_one (PySem.W.kitx_exc C.cl C.hg C.hk C.hs C.ha C.hn C.ht C.hm) I.kIn J e (fun z => nomatch z) fun tk => ⟨.bl b, H, I.tok tk, rfl, q⟩
theorem call_isXT (hz : Zc cls d oe) (hf : ∃ vs, oe.data = .fields vs) (hK : X.K = K := by rfl) : CallR (X.suite a ((a, oe) :: pn)) (.builtin "isinstance") (rIsXT K a cls d) := by
  subst hK
  intro pins s σ H xs us Q I r h
  obtain ⟨D, tp, cs, ws, b, rfl, rfl, C, hd, hT, k, e, q⟩ := h
  obtain ⟨u1, u2, rfl, r1, r2⟩ := vals2 r
  cases (show u1 = Value.ref a from r1)
  cases (show u2 = Value.ref tp from r2)
  obtain ⟨od, J⟩ := inst_of hz hf I hd
  obtain ⟨_, its, rv, o, h1, h2, n, h3⟩ := (show ObjOk X.prog X.w H s.heap tp (.tup cs) from I.hok tp _ hT)
  have e3 := ClsV.all k rv
  subst e3
  obtain ⟨oc, od2, dt, sl⟩ := o
  simp only at h2 h3
  subst h2 h3
  exact PySem.W.kia_tup (PySem.W.kitx_exc C.cl C.hg C.hk C.hs C.ha C.hn C.ht C.hm) I.kIn J h1 e (fun z => nomatch z) fun tk => ⟨.bl b, H, I.tok tk, rfl, q⟩
end
/-! ### the errors' own __init__ -/
/-- self.f = y on a new error of the class at C -/
def sp_xinit (f : Str) (C : Addr) (K : PySem.W.Frag) : Sp := fun vs H Q _ => ∃ (a : Addr) (y : V), vs = [.ref a, y] ∧ H a = some (exo a C none) ∧ ∀ d, H d = none → d ≠ a → Q .non (upd (upd H d (exd d [(f, y)])) a (exo a C (some d)))
theorem mk_read {C : Addr} {f : Str} {K : PySem.W.Frag} {y : V} {H : Hp} {Q : XK} (h : ∀ d, H d = none → Q (.ref C) (some d) (upd H d (.xd [(f, y)]))) :
    [y].length ≤ 1000 ∧ ∀ a, H a = none → sp_xinit f C K (.ref a :: ([y] ++ [])) (upd H a (exo a C none)) (fun v H2 => v = .non ∧ ∃ (d : Addr) (fs : List (Str × V)), H2 a = some (exo a C (some d)) ∧ H2 d = some (exd d fs) ∧ H d = none ∧ Q (.ref C) (some d) (upd (del H2 a) d (.xd fs))) (fun _ _ _ => False) := by
  refine ⟨by show 1 ≤ 1000; decide, fun a ha => ⟨a, y, rfl, upd_same, fun d hd hda => ⟨rfl, d, [(f, y)], upd_same, by rw [upd_ne hda, upd_same], by rw [upd_ne hda] at hd; exact hd, ?_⟩⟩⟩
  have hd' : H d = none := by rw [upd_ne hda] at hd; exact hd
  have e : upd (del (upd (upd (upd H a (exo a C none)) d (exd d [(f, y)])) a (exo a C (some d))) a) d (.xd [(f, y)]) = upd H d (.xd [(f, y)]) := by
    funext b
    by_cases hb : b = d
    · rw [hb, upd_same, upd_same]
    · rw [upd_ne hb, upd_ne hb]
      by_cases hba : b = a
      · rw [hba, del_same, ha]
      · rw [del_ne hba, upd_ne hba, upd_ne hb, upd_ne hba]
  rw [e]
  exact h d hd'
/-- raise C(e), C with such an __init__ -/
theorem ps_raiseI {X : Cx} {x : Str} {C fI : Addr} {k : Nat} {fd : FuncData} {ps : List Str} {f : Str} {W : WX} {e : Expr} {es : List Expr} {ta : TA} {p pos pos2 : Pos} {K : PySem.W.Frag} (tk : Takes X W) (T : OexC X.K C) (iC : PySem.W.findIn X.K (.ref C) "__init__" = some (some (.ref fI)))
    (tI : PySem.W.typeIn X.K (.ref fI) = some (.type "function")) (F1 : FnOk X.prog X.w X.K X.mg X.base CX0 k fI fd ps (sp_xinit f C K)) (hr : Room (k + 1) X.A) (hb : Binds X.K fd ps []) (hg : Gl X x) (hm : X.mg x = some (.ref C)) (ha : PA X (e :: es) ta) (hc : X.calm = true := by rfl)
    (hdb : (x == ("__debug__" : Str)) = false := by decide) (he : starEach (e :: es) X.env = (false, eval e X.env) :: starEach es X.env := by rfl) (hpl : (backTo pos (starEach es X.env)).any (·.1) = false := by rfl) :
    PS X (.Raise (some (.Call (.Name x p) (e :: es) [] pos)) none pos2) (fun _ σ H => tMkO C (sp_xinit f C K) [] ta σ H fun cls d H' => W cls d σ H') :=
  ps_raise hc tk (pmk_oex T iC tI F1 hr hb .nil pass0 hg hm ha hdb he hpl)
end Ag

namespace Ag
open PySem PySem.Spec PyProof.Rows L2 TL
/-! ### words that are numbers, lines that are asks -/
theorem d1_all : ∀ a < 10, numL a = [48 + a] := by decide +kernel
theorem d2_all : ∀ a < 10, ∀ b < 10, a ≠ 0 → numL (10 * a + b) = [48 + a, 48 + b] := by decide +kernel
theorem d3_all : ∀ a < 10, ∀ b < 10, ∀ c < 10, a ≠ 0 → numL (100 * a + 10 * b + c) = [48 + a, 48 + b, 48 + c] := by decide +kernel
def GoodW (w : Str) : Prop := ∃ n, Few n ∧ w = numS n
theorem str_ext {x y : Str} (h : tl x = tl y) : x = y := by
  have h : x.cps.toList = y.cps.toList := h
  obtain ⟨⟨a⟩⟩ := x
  obtain ⟨⟨b⟩⟩ := y
  have h : a = b := h
  rw [h]
theorem good_of {w : Str} {k : Nat} (hk : k ≤ 999) (h : tl w = numL k) : GoodW w := ⟨(k : Int), ⟨by omega, by omega⟩, str_ext (h.trans (tl_num k).symm)⟩
theorem good_word {w : Str} (h1 : 1 ≤ w.length) (h3 : w.length ≤ 3) (hd : ∀ c ∈ tl w, 48 ≤ c ∧ c ≤ 57) (h0 : (tl w).head? = some 48 → w = Str.ofString "0") : GoodW w := by
  rw [len_tl] at h1 h3
  have e0 : tl (Str.ofString "0") = [48] := by decide +kernel
  have hz : ∀ {x : Nat} {r : List Nat}, tl w = x :: r → r ≠ [] → x ≠ 48 := fun {x r} e hr hx => by
    have h := h0 (by rw [e, hx]; rfl)
    rw [h, e0] at e
    injection e with _ e
    exact hr e.symm
  match e : tl w, h1, h3 with
  | [a], _, _ =>
    have ha := hd a (by rw [e]; exact List.mem_cons_self)
    refine good_of (k := a - 48) (by omega) ?_
    rw [e, d1_all (a - 48) (by omega)]
    congr 1
    omega
  | [a, b], _, _ =>
    have ha := hd a (by rw [e]; simp)
    have hb := hd b (by rw [e]; simp)
    have na := hz e (by simp)
    refine good_of (k := 10 * (a - 48) + (b - 48)) (by omega) ?_
    rw [e, d2_all (a - 48) (by omega) (b - 48) (by omega) (by omega)]
    have e1 : 48 + (a - 48) = a := by omega
    have e2 : 48 + (b - 48) = b := by omega
    rw [e1, e2]
  | [a, b, c], _, _ =>
    have ha := hd a (by rw [e]; simp)
    have hb := hd b (by rw [e]; simp)
    have hc := hd c (by rw [e]; simp)
    have na := hz e (by simp)
    refine good_of (k := 100 * (a - 48) + 10 * (b - 48) + (c - 48)) (by omega) ?_
    rw [e, d3_all (a - 48) (by omega) (b - 48) (by omega) (c - 48) (by omega) (by omega)]
    have e1 : 48 + (a - 48) = a := by omega
    have e2 : 48 + (b - 48) = b := by omega
    have e3 : 48 + (c - 48) = c := by omega
    rw [e1, e2, e3]
theorem spl_len1 (s : Nat) : ∀ (l acc : List Nat), (spl [s] 0 acc l).length ≤ l.length + 1 ∧ ∀ p ∈ spl [s] 0 acc l, p.length ≤ acc.length + l.length ∧ ∀ c ∈ p, c ∈ acc ∨ c ∈ l
  | [], acc => by
    rw [spl_nil]
    refine ⟨Nat.le_refl _, fun p hp => ?_⟩
    rw [List.mem_singleton.mp hp]
    exact ⟨Nat.le_add_right _ _, fun c hc => .inl hc⟩
  | c :: r, acc => by
    by_cases h : pre [s] (c :: r) = true
    · rw [spl_hit h]
      obtain ⟨h1, h2⟩ := spl_len1 s r []
      refine ⟨by simp only [List.length_cons]; exact Nat.succ_le_succ h1, fun p hp => ?_⟩
      rcases List.mem_cons.mp hp with rfl | hp
      · exact ⟨Nat.le_add_right _ _, fun c hc => .inl hc⟩
      · obtain ⟨h3, h4⟩ := h2 p hp
        simp only [List.length_nil, List.length_cons] at h3 ⊢
        refine ⟨by omega, fun x hx => ?_⟩
        rcases h4 x hx with z | z
        · cases z
        · exact .inr (List.mem_cons_of_mem _ z)
    · rw [spl_miss (by simpa using h)]
      obtain ⟨h1, h2⟩ := spl_len1 s r (acc ++ [c])
      refine ⟨by simp only [List.length_cons]; omega, fun p hp => ?_⟩
      obtain ⟨h3, h4⟩ := h2 p hp
      simp only [List.length_append, List.length_cons, List.length_nil] at h3 ⊢
      refine ⟨by omega, fun x hx => ?_⟩
      rcases h4 x hx with z | z
      · rcases List.mem_append.mp z with z | z
        · exact .inl z
        · rw [List.mem_singleton.mp z]
          exact .inr List.mem_cons_self
      · exact .inr (List.mem_cons_of_mem _ z)
/-- signs that a text may have -/
def WOk (w : Str) : Prop := ∀ c ∈ tl w, c < 256
theorem split_len {x y : Str} {s : Nat} (ey : tl y = [s]) (hs : s < 256) : (Txt.split x y).length ≤ x.length + 1 ∧ ∀ p ∈ Txt.split x y, p.length ≤ x.length ∧ (WOk x → WOk p) := by
  have e : Txt.split x y = (spl [s] 0 [] (tl x)).map SX.S := by
    have h := SX.split_S (a := tl x) (b := [s]) (by simp) (by simpa using hs)
    rw [show SX.S (tl x) = x from SX.S_tl x, show SX.S [s] = y from by rw [← ey]] at h
    exact h
  obtain ⟨h1, h2⟩ := spl_len1 s (tl x) []
  rw [e, len_tl]
  refine ⟨by rw [List.length_map]; exact h1, fun p hp => ?_⟩
  obtain ⟨q, hq, rfl⟩ := List.mem_map.mp hp
  obtain ⟨h3, h4⟩ := h2 q hq
  simp only [List.length_nil, Nat.zero_add] at h3
  refine ⟨h3, fun hx c hc => ?_⟩
  rcases h4 c hc with z | z
  · cases z
  · exact hx c z
theorem tl_sp : tl spS = [32] := by decide +kernel
theorem tl_nl : tl nlS = [10] := by decide +kernel
def wordsOf (line : Str) : List Str := Txt.split line spS
def linesOf (t : Str) : List Str := if t = Str.ofString "" then [] else Txt.split t nlS
/-- a line that tells an ask -/
def LineIs (line : Str) (a : Ask) : Prop := wordsOf line = (askNs a).map numS ∧ ∀ n ∈ askNs a, Few n
theorem numS_inj {a b : Int} (ha : Few a) (hb : Few b) (h : numS a = numS b) : a = b := by
  have h1 := numS_int ha
  rw [h, numS_int hb] at h1
  exact (Option.some.inj h1).symm
theorem line_unique {s : Str} {a b : Ask} (ha : LineIs s a) (hb : LineIs s b) : a = b := by
  have h := ha.1.symm.trans hb.1
  obtain ⟨a1, a2, a3⟩ := a
  obtain ⟨b1, b2, b3⟩ := b
  have fa := ha.2
  have fb := hb.2
  unfold askNs at h fa fb
  simp only [List.map_cons, List.map_nil, List.cons.injEq, and_true] at h
  rw [numS_inj (fa a1 (by simp)) (fb b1 (by simp)) h.1, numS_inj (fa a2 (by simp)) (fb b2 (by simp)) h.2.1, numS_inj (fa a3 (by simp)) (fb b3 (by simp)) h.2.2]
theorem line_of {s : Str} (h3 : (wordsOf s).length = 3) (hg : ∀ w ∈ wordsOf s, GoodW w) : ∃ a, LineIs s a := by
  match e : wordsOf s, h3 with
  | [w1, w2, w3], _ =>
    rw [e] at hg
    obtain ⟨n1, f1, rfl⟩ := hg w1 (by simp)
    obtain ⟨n2, f2, rfl⟩ := hg w2 (by simp)
    obtain ⟨n3, f3, rfl⟩ := hg w3 (by simp)
    refine ⟨(n1, n2, n3), e, fun n hn => ?_⟩
    unfold askNs at hn
    simp only [List.mem_cons, List.not_mem_nil, or_false] at hn
    rcases hn with rfl | rfl | rfl <;> assumption
theorem line_good {s : Str} {a : Ask} (h : LineIs s a) : (wordsOf s).length = 3 ∧ ∀ w ∈ wordsOf s, GoodW w := by
  rw [h.1]
  refine ⟨rfl, fun w hw => ?_⟩
  obtain ⟨n, hn, rfl⟩ := List.mem_map.mp hw
  exact ⟨n, h.2 n hn, rfl⟩
theorem lines_len (t : Str) : (linesOf t).length ≤ t.length + 1 ∧ ∀ p ∈ linesOf t, p.length ≤ t.length ∧ (WOk t → WOk p) := by
  unfold linesOf
  split
  · exact ⟨Nat.zero_le _, fun p hp => by cases hp⟩
  · exact split_len tl_nl (by decide)
theorem words_len (t : Str) : (wordsOf t).length ≤ t.length + 1 ∧ ∀ p ∈ wordsOf t, p.length ≤ t.length ∧ (WOk t → WOk p) := split_len tl_sp (by decide)
theorem canLay_strs : ∀ ws : List Str, (∀ w ∈ ws, WOk w) → PyData.canLayAll0 (ws.map PyData.str) = true
  | [], _ => by simp [PyData.canLayAll0]
  | n :: r, h => by
    have h1 : PyData.strOk n = true := by
      have := h n List.mem_cons_self
      unfold PyData.strOk
      rw [← Array.all_toList, List.all_eq_true]
      intro c hc
      have := this c hc
      exact decide_eq_true (by omega)
    simp [PyData.canLayAll0, PyData.canLay0, canLay_strs r (fun w hw => h w (List.mem_cons_of_mem _ hw)), h1]
theorem depth_strs : ∀ ws : List Str, PyData.depthAll (ws.map PyData.str) = 0
  | [] => by simp [PyData.depthAll]
  | n :: r => by simp [PyData.depthAll, PyData.depth, depth_strs r]
theorem shaped_strs {ws : List Str} (h : ∀ w ∈ ws, WOk w) : SeqAt.shaped (.list (ws.map PyData.str)) = true := by
  unfold SeqAt.shaped
  simp [PyData.canLay0, canLay_strs ws h, PyData.depth, depth_strs]
theorem dpa_strs {K : PySem.W.Frag} {H : Hp} : ∀ ws : List Str, DpAll K H (ws.map V.str) (ws.map PyData.str)
  | [] => .nil
  | w :: r => .cons (.str w) (dpa_strs r)
theorem eqv_nilS (ds : List PyData) : PyData.eqv (.list ds) (.list []) = ds.isEmpty := by
  cases ds with
  | nil => simp [PyData.eqv, PyData.eqvAll]
  | cons n r => simp [PyData.eqv, PyData.eqvAll]
end Ag

namespace Ag
open PySem PySem.Spec PyProof.Rows L2
/-! ### xs.count(y), flat items -/
def rCnt (K : PySem.W.Frag) : V → List V → Hp → VK → Prop := fun x xs H Q => ∃ (a : Addr) (ys : List V) (y : V), x = V.ref a ∧ xs = [y] ∧ SqL K H a ys ∧ flatV y = true ∧ ys.all flatV = true ∧ Q (.int ((ys.countP fun z => eqV z y : Nat) : Int)) H
theorem count_pair {y : V} : ∀ {ys : List V} {us : List Value}, Vals ys us → ys.all flatV = true → us.countP (eqU y) = ys.countP (fun z => eqV z y)
  | _, _, .nil, _ => rfl
  | z :: ys, u :: us, .cons r t, f => by
    rw [List.all_cons, Bool.and_eq_true] at f
    rw [List.countP_cons, List.countP_cons, count_pair t f.2, eqU_of r f.1]
section
variable {X : Cx}
theorem mt_cnt : MtR X "list.count" (rCnt X.K) := by
  intro pins s σ H x xs v us Q I rx rxs h
  obtain ⟨a, ys, y, rfl, rfl, hs, fy, fys, q⟩ := h
  cases rx
  cases rxs with
  | cons ry rt =>
    rename_i uy ut
    cases rt
    obtain ⟨its, rv, ⟨⟨cls, dd, data, sl⟩, n, ho, hc, hdn, hd⟩, hlen⟩ := I.list hs
    simp only at hc hd
    subst hc hd
    refine call_meets PySem.F.slot_list_count ⟨_, ho, rfl⟩ PySem.F.entry_list_count (PySem.F.args_list_count_2 _ _)
      (SeqAt.list_countAt a its.toArray n dd sl uy (eqU y)) ⟨ho, fun u' hu' => mem_eqAt ry fy rv fys u' (by simpa using hu'), ?_⟩
    have e : its.toArray.toList.countP (eqU y) = ys.countP (fun z => eqV z y) := count_pair rv fys
    rw [e]
    exact ⟨.int _, H, I.tok _, ⟨_, rfl⟩, q⟩
/-- xs.count(y), the kit's facts named -/
theorem pe_cnt {K : PySem.W.Frag} {o e : Expr} {to : TE} {t : TA} {apos cpos : Pos} (ho : PE X o to) (ha : PA X [e] t) (hK : X.K = K := by rfl)
    (hbase : attributeBase o "count" X.env (eval o X.env) = eval o X.env := by rfl)
    (hfew : ((backTo cpos (starEach [e] X.env)).all (fun x => !x.1) && (backToKw cpos (keywordEach [] X.env)).all (fun x => x.1.isSome)
      && decide ([e].length + ([] : List Keyword).length + (if ([] : List Keyword).isEmpty then 0 else 1) < 30)) = true := by rfl)
    (hline : (apos.endLine == cpos.line) = true := by rfl) (hs : starEach [e] X.env = (false, eval e X.env) :: starEach [] X.env := by rfl) (hplain : (backTo cpos (starEach [] X.env)).any (·.1) = false := by rfl) :
    PE X (.Call (.Attribute o "count" apos) [e] [] cpos) (tBM K "list" (rCnt K) to t) := by
  subst hK
  exact pe_bm PySem.F.plainAttrs_list PySem.F.slot_list_count PySem.F.type_list_count mt_cnt ho ha hbase hfew hline hs hplain
end
end Ag

namespace Ag
open PySem PySem.Spec PyProof.Rows L2 TL
/-! ### lengths of texts cut and joined -/
def Wt (ys : List Str) : Nat := (ys.map fun y => y.length + 1).sum
theorem wt_app (a b : List Str) : Wt (a ++ b) = Wt a + Wt b := by
  unfold Wt
  rw [List.map_append, List.sum_append]
theorem wt_cons (y : Str) (r : List Str) : Wt (y :: r) = (y.length + 1) + Wt r := by
  unfold Wt
  rw [List.map_cons, List.sum_cons]
theorem wt_take (ys : List Str) : ∀ n, Wt (ys.take n) ≤ Wt ys := by
  induction ys with
  | nil => intro n; simp
  | cons y r ih =>
    intro n
    cases n with
    | zero => exact Nat.zero_le _
    | succ n =>
      rw [List.take_succ_cons, wt_cons, wt_cons]
      have := ih n
      omega
theorem wt_drop (ys : List Str) : ∀ n, Wt (ys.drop n) ≤ Wt ys := by
  induction ys with
  | nil => intro n; simp
  | cons y r ih =>
    intro n
    cases n with
    | zero => exact Nat.le_refl _
    | succ n =>
      rw [List.drop_succ_cons, wt_cons]
      have := ih n
      omega
theorem wt_mem {ys : List Str} {y : Str} (h : y ∈ ys) : y.length + 1 ≤ Wt ys := by
  induction ys with
  | nil => cases h
  | cons z r ih =>
    rw [wt_cons]
    rcases List.mem_cons.mp h with rfl | h
    · omega
    · have := ih h
      omega
theorem wt_len (ys : List Str) : ys.length ≤ Wt ys := by
  induction ys with
  | nil => exact Nat.le_refl _
  | cons y r ih =>
    rw [wt_cons, List.length_cons]
    omega
theorem wt_sum (ys : List Str) : (ys.map (·.length)).sum + ys.length = Wt ys := by
  induction ys with
  | nil => rfl
  | cons y r ih =>
    rw [wt_cons, List.map_cons, List.sum_cons, List.length_cons]
    omega
def cutL (ys : List Str) (lo hi : Option Int) : List Str := (ys.drop (HT.sIx ys.length 0 lo)).take (HT.sIx ys.length ys.length hi - HT.sIx ys.length 0 lo)
theorem cutV_str (ys : List Str) (lo hi : Option Int) : cutV (ys.map V.str) lo hi = (cutL ys lo hi).map V.str := by
  unfold cutV cutL
  rw [List.length_map, List.map_take, List.map_drop]
theorem wt_cut (ys : List Str) (lo hi : Option Int) : Wt (cutL ys lo hi) ≤ Wt ys := Nat.le_trans (wt_take _ _) (wt_drop _ _)
theorem cut_mem {ys : List Str} {lo hi : Option Int} {y : Str} (h : y ∈ cutL ys lo hi) : y ∈ ys := List.mem_of_mem_drop (List.mem_of_mem_take h)
theorem wt_spl (s : Nat) : ∀ (l acc : List Nat), ((spl [s] 0 acc l).map fun p => p.length + 1).sum = acc.length + l.length + 1
  | [], acc => by
    rw [spl_nil]
    simp
  | c :: r, acc => by
    by_cases h : pre [s] (c :: r) = true
    · rw [spl_hit h, List.map_cons, List.sum_cons]
      have := wt_spl s r []
      simp only [List.length_nil, List.length_cons] at this ⊢
      have e : (([s] : List Nat).length - 1) = 0 := rfl
      first
        | (rw [this]; omega)
        | omega
    · rw [spl_miss (by simpa using h)]
      have := wt_spl s r (acc ++ [c])
      simp only [List.length_append, List.length_cons, List.length_nil] at this ⊢
      omega
theorem wt_split {x y : Str} {s : Nat} (ey : tl y = [s]) (hs : s < 256) : Wt (Txt.split x y) = x.length + 1 := by
  have e : Txt.split x y = (spl [s] 0 [] (tl x)).map SX.S := by
    have h := SX.split_S (a := tl x) (b := [s]) (by simp) (by simpa using hs)
    rw [show SX.S (tl x) = x from SX.S_tl x, show SX.S [s] = y from by rw [← ey]] at h
    exact h
  have h := wt_spl s (tl x) []
  rw [e]
  unfold Wt
  rw [List.map_map]
  have e2 : ((fun y : Str => y.length + 1) ∘ SX.S) = fun p : List Nat => p.length + 1 := by
    funext p
    show (SX.S p).length + 1 = p.length + 1
    rw [len_tl]
  rw [e2, h, len_tl]
  first | done | simp
theorem wOk_app {a b : Str} (ha : WOk a) (hb : WOk b) : WOk (a ++ b) := fun c hc => by
  rw [tl_append] at hc
  rcases List.mem_append.mp hc with h | h
  · exact ha c h
  · exact hb c h
theorem wOk_cut {a : Str} {lo hi : Option Int} (ha : WOk a) : WOk (cutS a lo hi) := fun c hc => by
  have hc : c ∈ (a.cps.toList.drop (HT.sIx a.length 0 lo)).take (HT.sIx a.length a.length hi - HT.sIx a.length 0 lo) := hc
  exact ha c (List.mem_of_mem_drop (List.mem_of_mem_take hc))
theorem wOk_sign {a : Str} {c : Nat} (ha : WOk a) (h : c ∈ tl a) : WOk ⟨#[c]⟩ := fun d hd => by
  have hd : d ∈ [c] := hd
  rw [List.mem_singleton.mp hd]
  exact ha c h
theorem joinL_mem {S : List Nat} {c : Nat} : ∀ {ps : List (List Nat)}, c ∈ joinL S ps → c ∈ S ∨ ∃ p ∈ ps, c ∈ p
  | [], h => by cases h
  | [p], h => .inr ⟨p, List.mem_singleton.mpr rfl, by simpa [joinL] using h⟩
  | p :: q :: r, h => by
    have h : c ∈ p ++ (S ++ joinL S (q :: r)) := by simpa [joinL] using h
    rcases List.mem_append.mp h with h | h
    · exact .inr ⟨p, List.mem_cons_self, h⟩
    · rcases List.mem_append.mp h with h | h
      · exact .inl h
      · rcases joinL_mem h with h | ⟨z, hz, h⟩
        · exact .inl h
        · exact .inr ⟨z, List.mem_cons_of_mem _ hz, h⟩
theorem joinL_wt {S : List Nat} (hS : S.length = 1) : ∀ ps : List (List Nat), (joinL S ps).length ≤ (ps.map fun p => p.length + 1).sum
  | [] => Nat.zero_le _
  | [p] => by simp [joinL]
  | p :: q :: r => by
    have h := joinL_wt hS (q :: r)
    have e : (joinL S (p :: q :: r)).length = p.length + (S.length + (joinL S (q :: r)).length) := by simp [joinL]
    rw [List.map_cons, List.sum_cons, e]
    omega
theorem join_wt {y : Str} {s : Nat} (ey : tl y = [s]) (hs : s < 256) {ys : List Str} : (Txt.join y ys).length ≤ Wt ys ∧ ((∀ p ∈ ys, WOk p) → WOk (Txt.join y ys)) := by
  have e : tl (Txt.join y ys) = joinL [s] (ys.map tl) := by rw [join_eq, tl_join, ey]
  refine ⟨?_, fun h c hc => ?_⟩
  · rw [len_tl, e]
    refine Nat.le_trans (joinL_wt rfl _) ?_
    rw [List.map_map]
    refine Nat.le_of_eq ?_
    unfold Wt
    congr 1
  · rw [e] at hc
    rcases joinL_mem hc with h2 | ⟨p, hp, h2⟩
    · rw [List.mem_singleton.mp h2]
      exact hs
    · obtain ⟨q, hq, rfl⟩ := List.mem_map.mp hp
      exact h q hq c h2
theorem join_fit {y : Str} {s : Nat} (ey : tl y = [s]) {ys : List Str} (h : Wt ys ≤ 16777216) : (ys.map (·.length)).sum + ys.length * y.length ≤ 16777216 := by
  have e : y.length = 1 := by rw [len_tl, ey]; rfl
  rw [e, Nat.mul_one, wt_sum]
  exact h
theorem rep_flat (v : V) (n : Nat) : (List.replicate n [v]).flatten = List.replicate n v := by
  induction n with
  | zero => rfl
  | succ n ih => rw [List.replicate_succ, List.flatten_cons, ih]; rfl
theorem wt_rep (y : Str) (n : Nat) : Wt (List.replicate n y) = n * (y.length + 1) := by
  unfold Wt
  rw [List.map_replicate]
  induction n with
  | zero => simp
  | succ n ih =>
    rw [List.replicate_succ, List.sum_cons, ih, Nat.succ_mul]
    omega
end Ag

namespace Ag
open PySem PySem.Spec PyProof.Rows L2 LamX NdefX
open PySem.W (hideAll hideAll_get hideAll_none hideAll_size of_hideAll)
/-! ### a wider base at a call -/
section
variable {P : Program} {w : World} {K : PySem.W.Frag} {mg : Str → Option Value} {base : Heap} {A : Around} {outer : List Env} {s : Shared} {H : Hp}
theorem funFrames_none {h base : Heap} : ∀ {l : List Env}, h.FunFrames base l → ∀ {b2 : Heap}, (∀ b ∈ frs l, b2.get? b = none) → h.FunFrames b2 l
  | [], _, _, _ => trivial
  | env :: r, hl, b2, hn => by
    obtain ⟨hk, ⟨L, o, hf, hn0, ho, hd⟩, hr⟩ := hl
    have hL : L ∈ frs (env :: r) := by unfold frs; rw [List.filterMap_cons, hf]; exact List.mem_cons_self
    exact ⟨hk, ⟨L, o, hf, hn L hL, ho, hd⟩, funFrames_none hr fun b hb => hn b (by unfold frs at hb ⊢; rw [List.filterMap_cons, hf]; exact List.mem_cons_of_mem _ hb)⟩
/-- all that stands untracked and is no frame may be taken into the base -/
theorem env0_rebase (e : Env0 P w K mg base A outer s H) : ∃ b2 : Heap, Env0 P w K mg b2 A outer s H ∧ (∀ b o, base.get? b = some o → b2.get? b = some o) ∧ ∀ b o, s.heap.get? b = some o → H b = none → b ∉ frs outer → b2.get? b = some o := by
  classical
  refine ⟨hideAll s.heap (frs outer ++ (List.range s.heap.objs.size).filter fun a => decide (H a ≠ none)), ?_⟩
  have up : ∀ b o, s.heap.get? b = some o → H b = none → b ∉ frs outer → (hideAll s.heap (frs outer ++ (List.range s.heap.objs.size).filter fun a => decide (H a ≠ none))).get? b = some o := fun b o h1 h2 h3 => by
    refine hideAll_get _ h1 fun hm => ?_
    rcases List.mem_append.mp hm with hm | hm
    · exact h3 hm
    · have := (List.mem_filter.mp hm).2
      simp [h2] at this
  have nofr : ∀ b ∈ frs outer, base.get? b = none := fun b hb => (e.funs.mem hb).1
  have old : ∀ b o, base.get? b = some o → (hideAll s.heap (frs outer ++ (List.range s.heap.objs.size).filter fun a => decide (H a ≠ none))).get? b = some o := fun b o h1 => by
    refine up b o (e.bs b o h1).1 (e.bs b o h1).2 fun hb => ?_
    rw [nofr b hb] at h1
    cases h1
  obtain ⟨kin, glob, ⟨mb, blt, blt2⟩, nolimit⟩ := e.mod
  refine ⟨⟨e.frames, ⟨kin.keeps old, glob.keeps old, ⟨mb, blt.keeps old, blt2⟩, nolimit.keeps old⟩, fun b o h1 => ?_, by rw [hideAll_size]; exact Nat.le_refl _, funFrames_none e.funs fun b hb => hideAll_none _ (List.mem_append_left _ hb), e.frf, e.hok, e.bare⟩, old, up⟩
  have h2 := of_hideAll _ h1
  refine ⟨h2, ?_⟩
  cases q : H b with
  | none => rfl
  | some o2 =>
    have hm : b ∈ frs outer ++ (List.range s.heap.objs.size).filter fun a => decide (H a ≠ none) := by
      refine List.mem_append_right _ (List.mem_filter.mpr ⟨List.mem_range.mpr (Heap.lt_size h2), ?_⟩)
      rw [q]
      simp
    rw [hideAll_none _ hm] at h1
    cases h1
end
/-! ### a lambda, run -/
abbrev lamO (F : NF) (params : Arguments) (body : Expr) (pm ctv : Value) : Obj := PySem.W.kla_obj "<lambda>" F.qual params body F.scope F.cl pm F.c ctv
section
variable {P : Program} {w : World} {K : PySem.W.Frag} {mg : Str → Option Value} {base : Heap} {A : Around} {outer : List Env} {s : Shared} {H : Hp} {N ps fr : List Str} {F : NF} {f : Addr} {params : Arguments} {body : Expr} {pm ctv : Value} {vs : List V} {us : List Value} {ws : List (Option V)} {k : Nat} {Q : VK} {t : TE}
theorem lam_run (S : NScope N ps fr F.scope) (hr : Room (k + 1) A) (e0 : Env0 P w K mg base A outer s H) (hf : s.heap.get? f = some (lamO F params body pm ctv)) (hc : H F.c = some (CodeO F.c F.qual)) (C : CellsAt F.cl fr ws s.heap H)
    (r : Vals vs us) (hl : vs.length = ps.length) (hb : bindArgs (PySem.W.kla_fn "<lambda>" F.qual params body F.scope F.cl pm (.ref F.c) ctv) ⟨us, []⟩ = pure (ps.zip us))
    (hbody : Room k (A.deeper (envF F f s.heap.objs.size)) → PE (ncx CX0 P w K mg base N F f A outer s H E0) body t) (q : t (startF N vs ws) H Q) : codeAny (model P w) A (.call (.ref f) ⟨us, []⟩) (CR CX0 outer P w H s Q E0) s := by
  have lim : s.heap.NoLimit := e0.mod.nolimit.keeps fun b o e => (e0.bs b o e).1
  refine PySem.W.kla_callFunE hr.depth hf rfl S.co S.gen rfl (codeO_at e0.hok hc) ?_
  rw [hb]
  refine wpAny_pure (wpAny_newFunctionEnv S.nocell (fun ⟨n, _⟩ hy => S.par n (List.of_mem_zip hy).1) (fun h₁ hns hsb => ⟨lim.fresh _ hsb, ?_⟩) S.kind)
  have kp : ∀ b o, s.heap.get? b = some o → h₁.get? b = some o := fun b o e => hsb.extBut b o (Nat.ne_of_lt (Heap.lt_size e)) (Heap.get?_push_of_some _ e)
  have I : Inv (ncx CX0 P w K mg base N F f A outer s H E0) [] (startF N vs ws) H { s with heap := h₁, toks := s.toks + (ps.zip us).length } := inv_startN S hr.hd e0 hl r C hns kp
  refine PySem.W.kla_codeExpr (wpAny_mono ((hbody (hr.deeper _)).run [] _ _ H Q I q) (fun v s' hq => ?_) fun e s' hq => hq)
  obtain ⟨w', H', J', rv, q⟩ := hq
  exact ⟨w', H', J'.os, J'.bare, J'.base, J'.hok, rv, q⟩
end

/-! ### a lambda and its cells in a base -/
structure LamB (base : Heap) (f : Addr) (F : NF) (params : Arguments) (body : Expr) (fr : List Str) (ws : List (Option V)) : Prop where
  fn : ∃ pm ctv, base.get? f = some (lamO F params body pm ctv)
  len : ws.length = fr.length
  all : ∀ y c, F.cl.lookup y = some c → ∃ v, base.IsCell c v
  inj : ∀ x y c, F.cl.lookup x = some c → F.cl.lookup y = some c → x = y
  has : ∀ (i : Nat) (y : Str), fr[i]? = some y → ∃ c, F.cl.lookup y = some c ∧ ∀ v, ws[i]? = some (some v) → ∃ u, L2.RelV v u ∧ base.IsCell c (some u)
section
variable {P : Program} {w : World} {K : PySem.W.Frag} {mg : Str → Option Value} {base b2 : Heap} {A : Around} {outer : List Env} {s : Shared} {H : Hp} {fr : List Str} {F : NF} {f : Addr} {params : Arguments} {body : Expr} {ws : List (Option V)}
theorem cell_up {base b2 : Heap} (up : ∀ b o, base.get? b = some o → b2.get? b = some o) {c : Addr} {v : Option Value} (h : base.IsCell c v) : b2.IsCell c v := let ⟨o, e, d⟩ := h; ⟨o, up _ _ e, d⟩
theorem LamB.cells (B : LamB base f F params body fr ws) (e : Env0 P w K mg base A outer s H) : CellsAt F.cl fr ws s.heap H :=
  ⟨B.len, fun y c h => by
    obtain ⟨v, o, ho, hd⟩ := B.all y c h
    exact ⟨(e.bs _ _ ho).2, v, o, (e.bs _ _ ho).1, hd⟩, B.inj, fun i y h => by
    obtain ⟨c, hc, hv⟩ := B.has i y h
    exact ⟨c, hc, fun v hv' => let ⟨u, ru, hu⟩ := hv v hv'; ⟨u, ru, cell_up (fun b o z => (e.bs b o z).1) hu⟩⟩⟩
theorem LamB.up (B : LamB base f F params body fr ws) (up : ∀ b o, base.get? b = some o → b2.get? b = some o) : LamB b2 f F params body fr ws :=
  ⟨let ⟨pm, ctv, h⟩ := B.fn; ⟨pm, ctv, up _ _ h⟩, B.len, fun y c h => let ⟨v, z⟩ := B.all y c h; ⟨v, cell_up up z⟩, B.inj, fun i y h => let ⟨c, hc, hv⟩ := B.has i y h; ⟨c, hc, fun v hv' => let ⟨u, ru, hu⟩ := hv v hv'; ⟨u, ru, cell_up up hu⟩⟩⟩
end
theorem lamB_made {X : Cx} {pins : List (Addr × Obj)} {σ : L2.St} {H : Hp} {s : Shared} {b2 : Heap} {f : Addr} {F : NF} {params : Arguments} {body : Expr} {fr : List Str} {js : List Nat} {pm ctv : Value} (I : Inv X pins σ H s) (hfn : ∀ y, X.fn y = true) (cp : Caps X F.cl fr js)
    (hf : s.heap.get? f = some (lamO F params body pm ctv)) (n : H f = none) (nf : f ∉ frs X.stack) (up : ∀ b o, s.heap.get? b = some o → H b = none → b ∉ frs X.stack → b2.get? b = some o) : LamB b2 f F params body fr (js.map (slotAt σ)) := by
  have C := cells_of I cp
  have nc : ∀ y c, F.cl.lookup y = some c → c ∉ frs X.stack := fun y c h hm => by
    have hx := cp.sub y c h
    rcases List.mem_cons.mp (I.stkSub c hm) with e | hb
    · exact I.cne y c hx e
    · have h1 := I.ok.cab y c (hfn y) hx
      obtain ⟨_, o, ho, _⟩ := I.ok.funs.mem hb
      exact absurd (Nat.lt_of_lt_of_le (Heap.lt_size ho) h1) (Nat.lt_irrefl _)
  refine ⟨⟨pm, ctv, up _ _ hf n nf⟩, C.len, fun y c h => ?_, C.inj, fun i y h => ?_⟩
  · obtain ⟨hn, v, o, ho, hd⟩ := C.all y c h
    exact ⟨v, o, up _ _ ho hn (nc y c h), hd⟩
  · obtain ⟨c, hc, hv⟩ := C.has i y h
    refine ⟨c, hc, fun v hv' => ?_⟩
    obtain ⟨u, ru, o, ho, hd⟩ := hv v hv'
    exact ⟨u, ru, o, up _ _ ho (C.all y c hc).1 (nc y c hc), hd⟩
/-! ### what a function of one number promises, at every base that widens this one -/
/-- its answer: a number (the heap as it was), or a new tuple -/
def ansI (g : Int → Int) (n : Int) (H : Hp) : VK := fun v H' => v = .int (g n) ∧ H' = H
def ansT (g : Int → List Int) (n : Int) (H : Hp) : VK := fun v H' => ∃ p, v = .ref p ∧ H p = none ∧ H' = upd H p (.tup ((g n).map V.int))
structure KeyFn (P : Program) (w : World) (K : PySem.W.Frag) (mg : Str → Option Value) (base : Heap) (k : Nat) (f : Addr) (dom : Int → Prop) (Ih : Hp → Prop) (ans : Int → Hp → VK) : Prop where
  fn : PySem.W.FnAt f base
  run : ∀ (b2 : Heap) (A : Around) (outer : List Env) (s : Shared) (H : Hp) (u : Value) (n : Int), (∀ b o, base.get? b = some o → b2.get? b = some o) → Room k A → Env0 P w K mg b2 A outer s H → Ih H → dom n → RelV (.int n) u →
    codeAny (model P w) A (.call (.ref f) ⟨[u], []⟩) (CR CX0 outer P w H s (ans n H) E0) s
section
variable {P : Program} {w : World} {K : PySem.W.Frag} {mg : Str → Option Value} {base : Heap} {k j : Nat} {f : Addr} {dom : Int → Prop} {Ih : Hp → Prop} {ans : Int → Hp → VK}
theorem keyFn_lam {N fr : List Str} {x : Str} {F : NF} {params : Arguments} {body : Expr} {ws : List (Option V)} (S : NScope N [x] fr F.scope) (B : LamB base f F params body fr ws) (hb : ∀ (pm ctv u : Value), bindArgs (PySem.W.kla_fn "<lambda>" F.qual params body F.scope F.cl pm (.ref F.c) ctv) ⟨[u], []⟩ = pure ([x].zip [u]))
    (hc : ∀ H, Ih H → H F.c = some (CodeO F.c F.qual))
    (hbody : ∀ (b2 : Heap) (A : Around) (outer : List Env) (s : Shared) (H : Hp) (n : Int), (∀ b o, base.get? b = some o → b2.get? b = some o) → Room k (A.deeper (envF F f s.heap.objs.size)) → Ih H → dom n →
      ∃ t, PE (ncx CX0 P w K mg b2 N F f A outer s H E0) body t ∧ t (startF N [.int n] ws) H (ans n H)) : KeyFn P w K mg base (k + 1) f dom Ih ans := by
  obtain ⟨pm, ctv, hf⟩ := B.fn
  refine ⟨⟨_, _, _, _, hf⟩, fun b2 A outer s H u n up hr e0 hI hd r => ?_⟩
  have C := (B.up up).cells e0
  have hfs := (e0.bs _ _ (up _ _ hf)).1
  by_cases hr' : Room k (A.deeper (envF F f s.heap.objs.size))
  · obtain ⟨t, ht, hq⟩ := hbody b2 A outer s H n up hr' hI hd
    exact lam_run S hr e0 hfs (hc H hI) C (.cons r .nil) rfl (hb pm ctv u) (fun _ => ht) hq
  · exact absurd (hr.deeper _) hr'
/-- f(e), f a name that holds such a function -/
theorem pe_key {X : Cx} {b0 : Heap} {i : Nat} {x : Str} {p pos : Pos} {e : Expr} {t : TA} (Fn : KeyFn X.prog X.w X.K X.mg b0 k f dom Ih ans) (up : ∀ b o, b0.get? b = some o → X.base.get? b = some o) (hr : Room j X.A) (hk : k ≤ j) (hN : X.N[i]? = some x) (hv : Vis X.env.scope x) (ha : PA X [e] t)
    (hd : (x == ("__debug__" : Str)) = false := by decide) (hcd : (x == ("__classdict__" : Str)) = false := by decide)
    (he : starEach (e :: []) X.env = (false, eval e X.env) :: starEach [] X.env := by rfl) (hpl : (backTo pos (starEach [] X.env)).any (·.1) = false := by rfl) :
    PE X (.Call (.Name x p) [e] [] pos) (fun σ H Q => σ[i]? = some (some (.ref f)) ∧ t σ H fun vs H1 => ∃ n, vs = [.int n] ∧ dom n ∧ Ih H1 ∧ ∀ v H2, ans n H1 v H2 → Q v H2) := by
  refine ⟨fun pins s σ H Q I h => ?_⟩
  obtain ⟨hs, ht⟩ := h
  refine wpAny_Call_Name_kw (thn ((pe_var (pos := p) hN hv hd hcd).run pins s σ H (fun v H1 => v = .ref f ∧ H1 = H) I ⟨.ref f, hs, rfl, rfl⟩) fun u s1 ⟨v, H1, I1, r1, q1⟩ => ?_)
  obtain ⟨ev, eH⟩ := q1
  subst ev
  rw [eH] at I1
  obtain rfl : u = Value.ref f := r1
  have at_ : ∀ {pins : List (Addr × Obj)} {σ : L2.St} {H : Hp} {s : Shared}, Inv X pins σ H s → PySem.W.FnAt f s.heap := fun J => by
    obtain ⟨c, od, fd, sl, ho⟩ := Fn.fn
    exact ⟨c, od, fd, sl, J.bk _ _ (up _ _ ho)⟩
  refine PySem.W.callWith_F (first := []) (at_ I1) (thn (ha.run pos pins s1 σ H _ I1 ht) fun us s2 ⟨vs, H2, I2, r, n, ev, hdm, hI, q⟩ => ⟨at_ I2, ?_⟩) he hpl
  subst ev
  obtain ⟨u, rfl, ru⟩ := vals1 r
  show wpAny _ _ (call (.ref f) [u]) _ _ _
  refine wpAny_call (codeAny_mono (Fn.run X.base X.A X.stack s2 H2 u n up (hr.mono hk) I2.env0 hI hdm ru) fun r s' hq => ?_)
  cases r with
  | error e => exact False.elim hq
  | ok fl =>
    cases fl with
    | ret u => 
      obtain ⟨v, H', J, rv, q'⟩ := I2.after hq
      exact ⟨v, H', J, rv, q v H' q'⟩
    | next => exact False.elim hq
    | brk => exact False.elim hq
    | cont => exact False.elim hq
end
end Ag

set_option maxHeartbeats 8000000
namespace Ag
open PySem PySem.Spec PyProof.Rows L2 LamX NdefX
/-! ### min(xs, key=lambda ..): the first item of the least key -/
/-- a list walked by what it holds, not by the very words that stand there -/
theorem walksV {prog : Program} {w : World} {A : Around} (hh : A.handled = none) (I ax : Addr) (hne : ax ≠ I) (xs : List V) :
    WalksS prog w A I [I, ax] [I] (fun a b => b = a) xs.length (fun i v => ∃ x, xs[i]? = some x ∧ RelV x v) (fun i s => s.heap.IsListIter I ax i ∧ ∃ items : Array Value, s.heap.IsList ax items ∧ Vals xs items.toList) := by
  have sz : ∀ {items : Array Value}, Vals xs items.toList → items.size = xs.length := fun r => by
    have := r.length
    simpa using this.symm
  refine ⟨fun b hb => by simp at hb; simp [hb], fun _ => rfl, fun _ _ _ h1 h2 => h2.trans h1, ?_, ?_, ?_, ?_⟩
  · rintro i s h' tk ⟨h1, items, h2, h3⟩ _ hk
    exact ⟨h1.at fun o e => hk I (by simp) o e, items, h2.at fun o e => hk ax (by simp) o e, h3⟩
  · rintro i s Q E hi ⟨h1, items, h2, h3⟩ hQ
    refine (Walks.list (prog := prog) (w := w) (A := A) hh I ax hne items).toS.item i s Q E (by rw [sz h3]; exact hi) ⟨h1, h2⟩ fun v s' hv st m => ?_
    obtain ⟨x, hx⟩ : ∃ x, xs[i]? = some x := ⟨_, List.getElem?_eq_getElem hi⟩
    obtain ⟨u, hu, ru⟩ := h3.get hx
    have e : v = u := by
      have h4 : items[i]? = some v := hv
      rw [← Array.getElem?_toList, hu] at h4
      exact (Option.some.inj h4).symm
    exact hQ v s' ⟨x, hx, e ▸ ru⟩ ⟨st.1, items, st.2, h3⟩ m
  · rintro s Q E ⟨h1, items, h2, h3⟩ hQ
    exact (Walks.list (prog := prog) (w := w) (A := A) hh I ax hne items).toS.done s Q E ⟨by rw [sz h3]; exact h1, h2⟩ hQ
  · rintro i s Q E ⟨h1, items, h2, h3⟩ hQ
    exact (Walks.list (prog := prog) (w := w) (A := A) hh I ax hne items).toS.self i s Q E ⟨h1, h2⟩ hQ
/-- only new tuples are added -/
structure Ext (H H' : Hp) : Prop where
  same : Same H H'
  new : ∀ b, H b = none → H' b = none ∨ ∃ xs, H' b = some (.tup xs)
theorem Ext.refl (H : Hp) : Ext H H := ⟨Same.refl H, fun b e => .inl e⟩
theorem Ext.tup {H H' : Hp} (e : Ext H H') {p : Addr} {xs : List V} (n : H' p = none) : Ext H (upd H' p (.tup xs)) :=
  ⟨e.same.trans (same_new n), fun b hb => by
    by_cases z : b = p
    · rw [z, upd_same]
      exact .inr ⟨xs, rfl⟩
    · rw [upd_ne z]
      exact e.new b hb⟩
/-! ### the least -/
abbrev lexL := HT.lexLt
theorem lexL_irr : ∀ l : List Int, lexL l l = false
  | [] => rfl
  | x :: r => by
    show (if x = x then lexL r r else _) = false
    rw [if_pos rfl]
    exact lexL_irr r
/-- of three numbers each: not less, and less, make less -/
theorem lexL_trans {a b c : List Int} (ha : a.length = 3) (hb : b.length = 3) (hc : c.length = 3) (h1 : lexL b a = true) (h2 : lexL c a = false) : lexL c b = false := by
  match a, b, c, ha, hb, hc with
  | [a1, a2, a3], [b1, b2, b3], [c1, c2, c3], _, _, _ =>
    simp only [lexL, HT.lexLt_cons, HT.lexLt_nil_nil] at h1 h2 ⊢
    split at h1 <;> split at h2 <;> split <;> first | omega | skip
    all_goals (try split at h1) <;> (try split at h2) <;> (try split) <;> first | omega | skip
    all_goals (try split at h1) <;> (try split at h2) <;> (try split) <;> simp_all <;> omega
theorem best_least (g : Int → List Int) (hg : ∀ n, (g n).length = 3) (ns : List Int) : ∀ k, k < ns.length → argBest (fun i j => lexL (g (ns.getD i 0)) (g (ns.getD j 0))) k ≤ k ∧
    ∀ i, i ≤ k → lexL (g (ns.getD i 0)) (g (ns.getD (argBest (fun i j => lexL (g (ns.getD i 0)) (g (ns.getD j 0))) k) 0)) = false
  | 0, _ => ⟨Nat.le_refl _, fun i hi => by
    obtain rfl : i = 0 := by omega
    exact lexL_irr _⟩
  | k + 1, hk => by
    obtain ⟨i1, i2⟩ := best_least g hg ns k (by omega)
    by_cases hb : lexL (g (ns.getD (k + 1) 0)) (g (ns.getD (argBest (fun i j => lexL (g (ns.getD i 0)) (g (ns.getD j 0))) k) 0)) = true
    · have ea : argBest (fun i j => lexL (g (ns.getD i 0)) (g (ns.getD j 0))) (k + 1) = k + 1 := if_pos hb
      rw [ea]
      refine ⟨Nat.le_refl _, fun i hi => ?_⟩
      by_cases z : i = k + 1
      · rw [z]
        exact lexL_irr _
      · exact lexL_trans (hg _) (hg _) (hg _) hb (i2 i (by omega))
    · have ea : argBest (fun i j => lexL (g (ns.getD i 0)) (g (ns.getD j 0))) (k + 1) = argBest (fun i j => lexL (g (ns.getD i 0)) (g (ns.getD j 0))) k := if_neg hb
      rw [ea]
      refine ⟨by omega, fun i hi => ?_⟩
      by_cases z : i = k + 1
      · rw [z]
        simpa using hb
      · exact i2 i (by omega)
theorem vals_det : ∀ {xs : List V} {us : List Value} {ns : List Int}, Vals xs us → Vals (ns.map V.int) us → xs = ns.map V.int
  | [], _, ns, .nil, h2 => by
    cases ns with
    | nil => rfl
    | cons n r => rw [List.map_cons] at h2; cases h2
  | x :: xs, u :: us, [], .cons a r, h2 => by cases h2
  | x :: xs, u :: us, n :: ns, .cons a r, h2 => by
    rw [List.map_cons] at h2
    cases h2 with
    | cons b r2 =>
      have e : x = .int n := by
        obtain ⟨t, rfl⟩ := b
        cases x <;> first | (obtain ⟨t', e⟩ := a; first | (cases e; done) | (cases e; rfl)) | (exact absurd a (by intro z; cases z)) | (cases a; done)
      rw [e, vals_det r r2]
      rfl
/-! ### the rule -/
section
variable {X : Cx} {pins : List (Addr × Obj)} {σ : L2.St} {H : Hp} {s : Shared} {Q : VK}
theorem un_of {v : Value} {P : Program} {w : World} {outer : List Env} {s' : Shared} (h : CE outer P w H s Q v s') : ∃ H', Un (frs outer) [] H H' s.heap s'.heap ∧ HOk P w H' s'.heap := let ⟨_, H', _, _, un, hok, _⟩ := h; ⟨H', un, hok⟩
theorem min_key {k j : Nat} {a f : Addr} {ns : List Int} {g : Int → List Int} {o : Obj} (I : Inv X pins σ H s) (hc : X.calm = true) (hr : Room (j + 1) X.A) (hk : k ≤ j) (hL : H a = some (.lst (ns.map V.int))) (hne : ns ≠ []) (hg : ∀ n, (g n).length = 3)
    (hf : s.heap.get? f = some o) (nf : H f = none) (ff : f ∉ frs X.stack)
    (Fn : ∀ b2 : Heap, (∀ b o, X.base.get? b = some o → b2.get? b = some o) → (∀ b o, s.heap.get? b = some o → H b = none → b ∉ frs X.stack → b2.get? b = some o) → KeyFn X.prog X.w X.K X.mg b2 k f (· ∈ ns) (Ext H) (ansT g))
    (q : ∀ m H', Ext H H' → m ∈ ns → (∀ n ∈ ns, lexL (g n) (g m) = false) → Q (.int m) H') :
    wpAny (model X.prog X.w) X.A (call (.builtin "min") [.ref a] [(Str.ofString "key", .ref f)]) (EP X pins σ Q) X.xe s := by
  have hu : X.A.units + 64 < cLine := hr.units
  obtain ⟨b2, e2, up2, in2⟩ := env0_rebase I.env0
  have Fn2 := Fn b2 up2 in2
  obtain ⟨its, rv, pl, hz⟩ := I.list (SqL.of hL)
  have hsz : its.length = ns.length := by rw [← rv.length, List.length_map]
  refine call_min_walkK (wpAny_pyIter_list pl.isList ?_)
  have hlt : a < s.heap.objs.size := by obtain ⟨_, e, _⟩ := pl.isList; exact Heap.lt_size e
  have kp : ∀ b o, s.heap.get? b = some o → (s.heap.push { cls := .type "list_iterator", data := .fields #[.ref a, .int 0 0] }).get? b = some o := fun b o e => Heap.get?_push_of_some _ e
  -- where the walk's own things stand
  have hr1 : Room j X.A.in1 := hr.in1
  generalize hs2 : ({ s with heap := s.heap.push { cls := .type "list_iterator", data := .fields #[.ref a, .int 0 0] } } : Shared) = s2
  have h2 : s2.heap = s.heap.push { cls := .type "list_iterator", data := .fields #[.ref a, .int 0 0] } := by rw [← hs2]
  have sz2 : s2.heap.objs.size = s.heap.objs.size + 1 := by rw [h2, Heap.size_push]
  have fI : FpOk X pins H s.heap.objs.size := I.fpOk (Nat.le_refl _) (I.hok.fresh (Nat.le_refl _))
  have fS : FpOk X pins H s2.heap.objs.size := I.fpOk (by omega) (I.hok.fresh (by omega))
  have I2 : Inv X pins σ H s2 := by
    rw [← hs2]
    exact I.kept (t' := s.toks) kp
  have nst : ∀ {H' : Hp} {b : Addr}, FpOk X pins H' b → b ∉ frs X.stack := fun f hm => by
    rcases List.mem_cons.mp (I.stkSub _ hm) with e | e
    · exact f.2.1 e
    · exact f.2.2.1 e
  have lt2 : ∀ {b : Addr} {ob : Obj}, s.heap.get? b = some ob → b ≠ s.heap.objs.size ∧ b ≠ s2.heap.objs.size := fun e =>
    ⟨Nat.ne_of_lt (Heap.lt_size e), Nat.ne_of_lt (Nat.lt_of_lt_of_le (Heap.lt_size e) (by rw [sz2]; exact Nat.le_succ _))⟩
  have hli : s2.heap.IsListIter s.heap.objs.size a 0 := by
    rw [h2]
    exact ⟨_, Heap.get?_push_size _ rfl, rfl, rfl⟩
  have hl2 : ∃ items : Array Value, s2.heap.IsList a items ∧ Vals (ns.map V.int) items.toList := by
    rw [h2]
    exact ⟨its.toArray, pl.isList.push _, by simpa using rv⟩
  have hI1 : s.heap.objs.size < s2.heap.objs.size := by rw [sz2]; exact Nat.lt_succ_self _
  revert fI fS hli lt2 hI1
  generalize s.heap.objs.size = It at *
  generalize hSS : s2.heap.objs.size = S
  intro fI fS lt2 hli hI1
  have nIS : It ≠ S := Nat.ne_of_lt hI1
  have hlen : (ns.map V.int).length = ns.length := List.length_map ..
  refine ⟨It, [It, a], [It], (fun a b => b = a), (ns.map V.int).length, (fun i v => ∃ x, (ns.map V.int)[i]? = some x ∧ RelV x v), (fun i s => s.heap.IsListIter It a i ∧ ∃ items : Array Value, s.heap.IsList a items ∧ Vals (ns.map V.int) items.toList),
    (fun s' => ∃ H', Inv X pins σ H' s' ∧ Ext H H' ∧ FpOk X pins H' S ∧ FpOk X pins H' It ∧ ∀ b o, s.heap.get? b = some o → H b = none → b ∉ frs X.stack → s'.heap.get? b = some o ∧ H' b = none),
    (fun i k s' => ∃ t its n, k = .ref t ∧ ns[i]? = some n ∧ H t = none ∧ t ∉ frs X.stack ∧ t ≠ S ∧ t ≠ It ∧ IsTup s'.heap t its ∧ IntsAre its.toList (g n)),
    (fun i j => lexL (g (ns.getD i 0)) (g (ns.getD j 0))), rfl, walksV (A := X.A.in1) (I.ok.hd hc) It a (Nat.ne_of_lt hlt) _, ⟨hli, hl2⟩, ?_, ?_, ?_, ?_, ?_⟩
  · intro b hb
    rcases List.mem_cons.mp hb with z | hb
    · rw [z]
      exact hI1
    · rcases List.mem_cons.mp hb with z | hb
      · rw [z]
        exact Nat.lt_trans hlt hI1
      · cases hb
  · rw [hlen]
    exact List.length_pos_iff.mpr hne
  · refine ⟨?_, ?_, ?_, ?_⟩
    · -- what min itself turns
      rintro sa sb ⟨H', I', E', fS', fI', KU⟩ m
      obtain ⟨h1, g1, d1, t1, o1⟩ := sb
      have hg1 : g1 = sa.gens := m.gens
      have hd1 : d1 = sa.drawn := m.drawn
      have ho1 : o1 = sa.os := m.os
      subst hg1 hd1 ho1
      refine ⟨H', I'.turnedL (ch := [S, It]) (fun b o hb e => m.heap b o hb e) (fun b hb => ?_), E', fS', fI', fun b o e n nf => ⟨m.heap b o (fun hm => ?_) (KU b o e n nf).1, (KU b o e n nf).2⟩⟩
      · rcases List.mem_cons.mp hb with rfl | hb
        · exact fS'
        · rw [List.mem_singleton.mp hb]
          exact fI'
      · rcases List.mem_cons.mp hm with z | z
        · exact (lt2 e).2 z
        · exact (lt2 e).1 (List.mem_singleton.mp z)
    · rintro i k sa sb ⟨t, its, n, rfl, hn, ht, nf, tS, tI, ⟨ob, e1, e2⟩, hi⟩ m
      refine ⟨t, its, n, rfl, hn, ht, nf, tS, tI, ⟨ob, m.heap t ob (fun hm => ?_) e1, e2⟩, hi⟩
      rcases List.mem_cons.mp hm with z | z
      · exact tS z
      · exact tI (List.mem_singleton.mp z)
    · -- a key
      rintro i v sa ob Qk Ek hi ⟨x, hx, rx⟩ ⟨H', I', E', fS', fI', KU⟩ ⟨st1, items, st2, st3⟩ hS hQ
      obtain ⟨n, hn, rfl⟩ : ∃ n, ns[i]? = some n ∧ x = .int n := by
        rw [List.getElem?_map] at hx
        cases e : ns[i]? with
        | none => rw [e] at hx; cases hx
        | some n => rw [e] at hx; exact ⟨n, rfl, (Option.some.inj hx).symm⟩
      obtain ⟨b3, e3, up3, in3⟩ := env0_rebase I'.env0.in1
      refine wpAny_call (codeAny_mono (Fn2.run b3 X.A.in1 X.stack sa H' v n (fun b o hb => ?_) (hr1.mono hk) e3 E' (List.mem_of_getElem? hn) rx) fun r s' hq => ?_)
      · have h1 := e2.bs b o hb
        have h3 : b ∉ frs X.stack := fun hm => by
          rw [(e2.funs.mem hm).1] at hb
          cases hb
        obtain ⟨h4, h5⟩ := KU b o h1.1 h1.2 h3
        exact in3 b o h4 h5 h3
      cases r with
      | error e => exact False.elim hq
      | ok fl =>
        cases fl with
        | next => exact False.elim hq
        | brk => exact False.elim hq
        | cont => exact False.elim hq
        | ret u =>
          obtain ⟨v', H'', os, bare, un, hok, rv', p, rfl, hp, rfl⟩ := hq
          obtain rfl : u = .ref p := rv'
          have J2 : Inv X pins σ (upd H' p (.tup ((g n).map V.int))) s' := by
            obtain ⟨v2, H2, J, _, hv2, hH2⟩ := I'.after (Q := fun v2 H2 => v2 = .ref p ∧ H2 = upd H' p (.tup ((g n).map V.int))) (u := .ref p) ⟨.ref p, _, os, bare, un, hok, rfl, rfl, rfl⟩
            rw [hH2] at J
            exact J
          have stay : ∀ b o, sa.heap.get? b = some o → H' b = none → b ∉ frs X.stack → s'.heap.get? b = some o := fun b o e n nf => un.keep b o e n nf (by simp)
          have free : ∀ b o, sa.heap.get? b = some o → H' b = none → upd H' p (.tup ((g n).map V.int)) b = none := fun b o e n => un.free b o e n (by simp)
          obtain ⟨oi, hoi, hoi2⟩ := id st1
          have fS2 : FpOk X pins (upd H' p (.tup ((g n).map V.int))) S := ⟨free _ _ hS fS'.1, fS'.2⟩
          have fI2 : FpOk X pins (upd H' p (.tup ((g n).map V.int))) It := ⟨free _ _ hoi fI'.1, fI'.2⟩
          have hpp : upd H' p (.tup ((g n).map V.int)) p = some (.tup ((g n).map V.int)) := upd_same
          have npS : p ≠ S := ne_of_none hpp fS2.1
          have npI : p ≠ It := ne_of_none hpp fI2.1
          have nps : p ∉ frs X.stack := fun hm => by
            have := J2.stkFree p hm
            rw [hpp] at this
            cases this
          have nHp : H p = none := E'.same.free hp
          refine hQ (.ref p) s' ⟨_, J2, E'.tup hp, fS2, fI2, fun b o e n nf => ?_⟩ ⟨st1.at fun o e => stay _ _ e fI'.1 (nst fI'), ?_⟩ (stay _ _ hS fS'.1 (nst fS')) ?_ ?_
          · obtain ⟨k1, k2⟩ := KU b o e n nf
            exact ⟨stay _ _ k1 k2 nf, free _ _ k1 k2⟩
          · have hL2 : upd H' p (.tup ((g n).map V.int)) a = some (.lst (ns.map V.int)) := (E'.tup hp).same _ _ hL
            obtain ⟨its2, rv2, pl2, _⟩ := J2.list (SqL.of hL2)
            exact ⟨its2.toArray, pl2.isList, by simpa using rv2⟩
          · obtain ⟨z1, its3, rv3, tp3⟩ := hok p _ hpp
            exact ⟨p, its3.toArray, n, rfl, hn, nHp, nps, npS, npI, tp3, by simpa using rv3.ints⟩
          · rintro j k' ⟨t, its3, n3, rfl, hn3, ht, nf, tS, tI, tp, hi3⟩
            refine ⟨t, ?_⟩
            rcases E'.new t ht with z | ⟨xs, z⟩
            · obtain ⟨ot, e1, e2'⟩ := tp
              exact ⟨its3, n3, rfl, hn3, ht, nf, tS, tI, ⟨ot, stay _ _ e1 z nf, e2'⟩, hi3⟩
            · obtain ⟨_, its4, rv4, tp4⟩ := I'.hok t _ z
              have z2 := un.tups t xs z
              obtain ⟨_, its5, rv5, tp5⟩ := hok t _ z2
              have e4 : its3 = its4.toArray := by
                obtain ⟨oa, a1, a2, na, a3⟩ := tp
                obtain ⟨oc, b1, b2', nb, b3'⟩ := tp4
                rw [a1] at b1
                cases b1
                rw [a3] at b3'
                cases b3'
                rfl
              subst e4
              have hi4 : IntsAre its4 (g n3) := by simpa using hi3
              have ex : xs = (g n3).map V.int := by
                have r1 := vals_of_ints hi4
                exact vals_det rv4 r1
              subst ex
              exact ⟨its5.toArray, n3, rfl, hn3, ht, nf, tS, tI, tp5, by simpa using rv5.ints⟩
    · rintro i j ki kj sa Qk Ek _ ⟨t1, its1, n1, rfl, hn1, _, _, _, _, tp1, hi1⟩ ⟨t2, its2, n2, rfl, hn2, _, _, _, _, tp2, hi2⟩ hQ
      refine HT.lt_tupInts tp1 tp2 hi1 hi2 (by show X.A.units + 1 < cLine; omega) ?_
      rw [getD_of hn1, getD_of hn2] at hQ
      exact hQ
  · exact ⟨H, I2, Ext.refl H, fS, fI, fun b o e n nf => ⟨by rw [h2]; exact kp b o e, n⟩⟩
  · rintro v s' ⟨x, hx, rx⟩ ⟨H', I', E', _, _, _⟩
    have hpos : 0 < ns.length := List.length_pos_iff.mpr hne
    obtain ⟨b1, b2'⟩ := best_least g hg ns (ns.length - 1) (by omega)
    rw [hlen] at hx
    revert hx b1 b2'
    generalize argBest (fun i j => lexL (g (ns.getD i 0)) (g (ns.getD j 0))) (ns.length - 1) = z
    intro hx b1 b2'
    obtain ⟨m, hm⟩ : ∃ m, ns[z]? = some m := ⟨_, List.getElem?_eq_getElem (by omega)⟩
    rw [List.getElem?_map, hm] at hx
    obtain rfl : x = .int m := (Option.some.inj hx).symm
    refine ⟨.int m, H', I', rx, q m H' E' (List.mem_of_getElem? hm) fun n hn => ?_⟩
    obtain ⟨i, hi, e⟩ := List.getElem_of_mem hn
    have := b2' i (by omega)
    rw [getD_of hm, getD_of (List.getElem?_eq_getElem hi), e] at this
    exact this
end
end Ag

set_option maxHeartbeats 8000000
namespace Ag
open PySem PySem.Spec PyProof.Rows L2 LamX NdefX
/-! ### a def whose code object is known by its place -/
structure FunC (K : PySem.W.Frag) (x qual : Str) (st : Stmt) (f : Addr) (fd : FuncData) (c : Addr) : Prop where
  ex : ∃ (oc : Value) (od : Option Addr) (kV doc pm : Value) (an : Option Addr) (ct : Value) (osl : Array (Option Value)),
    fd = PySem.W.fnOf x qual (defArgs st) (defBody st) (defScope st) .none kV doc pm an (.ref c) ct ∧ K.lookup f = some ⟨oc, od, .func fd, osl⟩ ∧ PySem.W.codeIn K (.ref c) qual = true
  kp : PySem.W.keepIn K (.ref f) = true
section
variable {P : Program} {w : World} {K : PySem.W.Frag} {mg : Str → Option Value} {base : Heap}
theorem FunC.ok {x qual : Str} {st : Stmt} {f c : Addr} {fd : FuncData} {N ps : List Str} {k : Nat} {sp : Sp} (F : FunC K x qual st f fd c) (S : FnScope N ps (defScope st)) (len : ∀ vs H Q E, sp vs H Q E → vs.length = ps.length)
    (hbody : ∀ (A : Around) (outer : List Env) (s : Shared) (H : Hp) (vs : List V) (Q : VK) (E : XK), Room k (A.deeper (envOfC qual (defScope st) s.heap.objs.size f (.ref c))) → sp vs H Q E →
      ∃ t, PSs (cxOf CX0 P w K mg base N qual (defScope st) f (.ref c) A outer s H E).nox (defBody st) t ∧ t { nx := fun _ H' => Q .non H', rt := Q } (start N vs) H) : FnOk P w K mg base CX0 (k + 1) f fd ps sp := by
  obtain ⟨oc, od, kV, doc, pm, an, ct, osl, rfl, lk, hcd⟩ := F.ex
  refine fn_of lk hcd S len fun A outer s H vs Q E hr hsp => ?_
  obtain ⟨t, h, q⟩ := hbody A outer s H vs Q E hr hsp
  exact ⟨t, h.nox, q⟩
theorem FunC.binds {x qual : Str} {st : Stmt} {f c : Addr} {fd : FuncData} {ps : List Str} (F : FunC K x qual st f fd c)
    (h : ∀ (kV doc pm : Value) (an : Option Addr) (cdv ct : Value) (us : List Value), us.length = ps.length → bindArgs (PySem.W.fnOf x qual (defArgs st) (defBody st) (defScope st) .none kV doc pm an cdv ct) ⟨us, []⟩ = pure (ps.zip us)) : Binds K fd ps [] := by
  obtain ⟨oc, od, kV, doc, pm, an, ct, osl, rfl, lk, hcd⟩ := F.ex
  exact .all (h kV doc pm an (.ref c) ct)
end
/-! ### lambdas as arguments: what they ask of the running def -/
structure LamC (X : Cx) (T : List (Addr × Str)) (c P : Addr) (params : Arguments) (scope : Scope) (fr : List Str) (js : List Nat) : Prop where
  tb : TabB X.base X.mg c P
  code : X.env.code = .ref c
  mem : (P, X.env.qual ++ "<lambda>") ∈ T
  one : ∀ p ∈ T, p.1 = P → p.2 = X.env.qual ++ "<lambda>"
  dfl : defaultsOf params X.env = ([], [])
  fn : ∀ y, X.fn y = true
  free : ∀ y ∈ scope.names, y.2 = .free → X.env.scope.names.lookup y.1 = some .cell ∨ X.env.scope.names.lookup y.1 = some .free
  frs : ∀ y ∈ fr, (y, NameKind.free) ∈ scope.names
  jss : js.map (fun j => X.N[j]?) = fr.map some
abbrev lamF (X : Cx) (params : Arguments) (scope : Scope) (c' : Addr) : NF := ⟨"<lambda>", X.env.qual ++ "<lambda>", params, [], scope, cloFrom X.env.cells scope.names [], c'⟩
section
variable {X : Cx} {T : List (Addr × Str)} {c P : Addr} {params : Arguments} {body : Expr} {scope : Scope} {fr : List Str} {js : List Nat} {k j : Nat}
def one1 (R : V → Hp → Prop) : List V → Hp → Prop
  | [v], H => R v H
  | _, _ => False
theorem one1_of {R : V → Hp → Prop} : ∀ {vs : List V} {H : Hp}, one1 R vs H → ∃ v, vs = [v] ∧ R v H
  | [v], _, h => ⟨v, rfl, h⟩
  | [], _, h => h.elim
  | _ :: _ :: _, _, h => h.elim
/-- min(e, key=lambda ..) -/
def tMinL (X : Cx) (T : List (Addr × Str)) (params : Arguments) (body : Expr) (scope : Scope) (fr : List Str) (js : List Nat) (k : Nat) (te : TE) : TE := fun σ H Q => te σ H fun v H1 => Tabs T H1 ∧ ∃ (a : Addr) (ns : List Int), v = .ref a ∧ H1 a = some (.lst (ns.map V.int)) ∧ ns ≠ [] ∧
  ∀ (c' : Addr) (H2 : Hp), ExtN H1 H2 → Tabs T H2 → H2 c' = some (CodeO c' (X.env.qual ++ "<lambda>")) → ∃ g : Int → List Int, (∀ n, (g n).length = 3) ∧
    (∀ (b2 : Heap) (f : Addr), (∀ b o, X.base.get? b = some o → b2.get? b = some o) → LamB b2 f (lamF X params scope c') params body fr (js.map (slotAt σ)) → KeyFn X.prog X.w X.K X.mg b2 k f (· ∈ ns) (Ext H2) (ansT g)) ∧
    ∀ m H', Ext H2 H' → m ∈ ns → (∀ n ∈ ns, lexL (g n) (g m) = false) → Q (.int m) H'
theorem pe_minL {p lpos kpos pos : Pos} {e : Expr} {te : TE} (L : LamC X T c P params scope fr js) (hc : X.calm = true) (hr : Room (j + 1) X.A) (hk : k ≤ j) (hg : Gl X "min") (hm : X.mg "min" = none) (he0 : PE X e te) (hs0 : starEach [e] X.env = (false, eval e X.env) :: starEach [] X.env := by rfl)
    (he : backTo pos (starEach (e :: []) X.env) = (false, eval e X.env) :: backTo pos (starEach [] X.env) := by rfl) (hpl : (backTo pos (starEach (e :: []) X.env)).any (·.1) = false := by rfl)
    (hall : (backToKw pos (keywordEach [⟨some "key", .Lambda params body scope lpos, kpos⟩] X.env)).all (·.1.isSome) = true := by rfl) (hnone : (backToKw pos (keywordEach [⟨some "key", .Lambda params body scope lpos, kpos⟩] X.env)).any (·.1.isNone) = false := by rfl)
    (hks : (backToKw pos (keywordEach [⟨some "key", .Lambda params body scope lpos, kpos⟩] X.env)).filterMap (·.1) = [Str.ofString "key"] := by rfl) :
    PE X (.Call (.Name "min" p) [e] [⟨some "key", .Lambda params body scope lpos, kpos⟩] pos) (tMinL X T params body scope fr js k te) := by
  refine ⟨fun pins s σ H Q I h => ?_⟩
  have hfree : ∀ y ∈ scope.names, y.2 = .free → ∃ c, X.env.cells.lookup y.1 = some c := fun y hy e => (L.free y hy e).elim (fun z => I.ok.has _ (.inl z)) fun z => I.ok.has _ (.inr z)
  refine wpAny_Call_Name_kw (ld_blt I hg hm (by decide +kernel : bootBuiltins "min" = some (.builtin "min")) ?_ (by decide) (by decide))
  refine PyProof.Rows.callWith_kw (thn ((pa_cons he0 pa_nil hs0).run pos pins s σ H (one1 _) I h) fun us s1 ⟨vs, H1, I1, r1, q1⟩ => ?_) he hpl hall hnone
  rw [hks]
  obtain ⟨v, rfl, hT, a, ns, rfl, hL, hne, q1⟩ := one1_of q1
  obtain ⟨u, rfl, ru⟩ := vals1 r1
  obtain rfl : u = .ref a := ru
  show wpAny _ _ (evalAll ((do let v ← eval (.Lambda params body scope lpos) X.env; standAt pos; pure v) :: [])) _ _ s1
  refine wpAny_evalAll_cons (wpAny_bind (lam_make2 I1 L.tb L.code L.mem L.one hT L.dfl hfree fun f c' pm ctv H2 s2 I2 eN T2 hf nf nfr hc' => wpAny_bind (wpAny_standAt (wpAny_pure ?_))))
  refine wpAny_evalAll_nil ?_
  obtain ⟨g, hg3, Fn, q2⟩ := q1 c' H2 eN T2 hc'
  have hL2 : H2 a = some (.lst (ns.map V.int)) := eN _ _ hL (fun ps z => by cases z)
  refine min_key I2 hc hr hk hL2 hne hg3 hf nf nfr (fun b2 up in2 => Fn b2 f up ?_) q2
  exact lamB_made I2 L.fn (Caps.made I2.ok L.free L.frs L.jss) hf nf nfr in2
/-- o.m(e, lambda ..): the lambda is told to the method as a function in a wider base -/
def tMethL (X : Cx) (T : List (Addr × Str)) (params : Arguments) (body : Expr) (scope : Scope) (fr : List Str) (js : List Nat) (k : Nat) (C fm : Addr) (fd : FuncData) (ps : List Str) (m : Str) (ta te : TE) : TE := fun σ H Q => ta σ H fun x H1 => ∃ a dx fs, x = .ref a ∧ H1 a = some (.ins C dx fs) ∧ fs.lookup m = none ∧
  te σ H1 fun y H2 => Tabs T H2 ∧ ∀ (c' : Addr) (H3 : Hp), ExtN H2 H3 → Tabs T H3 → H3 c' = some (CodeO c' (X.env.qual ++ "<lambda>")) → ∃ sp : Addr → Sp,
    (∀ (b2 : Heap) (f : Addr), (∀ b o, X.base.get? b = some o → b2.get? b = some o) → X.K.In b2 → b2.Ns mainGlobals X.mg → LamB b2 f (lamF X params scope c') params body fr (js.map (slotAt σ)) → FnOk X.prog X.w X.K X.mg b2 CX0 k fm fd ps (sp f)) ∧
    ∀ f, sp f [.ref a, y, .ref f] H3 Q E0
theorem pe_methL {o e1 : Expr} {m : Str} {apos lpos pos : Pos} {C fm : Addr} {fd : FuncData} {ps : List Str} {ta te : TE} {pl : Sem Bool} (L : LamC X T c P params scope fr js) (ho : PE X o ta) (he : PE X e1 te) (cl : Cls X.K C) (hm : Meth X.K C m fm) (hr : Room k X.A) (hb : Binds X.K fd ps [])
    (hst : starEach [e1, .Lambda params body scope lpos] X.env = (false, eval e1 X.env) :: starEach [.Lambda params body scope lpos] X.env := by rfl) (hpl : (backTo pos (starEach [.Lambda params body scope lpos] X.env)).any (·.1) = false := by rfl)
    (hst2 : starEach [.Lambda params body scope lpos] X.env = (false, eval (.Lambda params body scope lpos) X.env) :: starEach [] X.env := by rfl)
    (ht : eval (.Call (.Attribute o m apos) [e1, .Lambda params body scope lpos] [] pos) X.env = (do
      let ov ← eval o X.env
      standAt apos.atName
      let (f, first) ← holding [ov] (getMethod ov m pl)
      callWith pos f first (backTo pos (starEach [e1, .Lambda params body scope lpos] X.env)) (backToKw pos (keywordEach [] X.env))) := by rfl) :
    PE X (.Call (.Attribute o m apos) [e1, .Lambda params body scope lpos] [] pos) (tMethL X T params body scope fr js k C fm fd ps m ta te) := by
  refine ⟨fun pins s σ H Q I h => ?_⟩
  have hfree : ∀ y ∈ scope.names, y.2 = .free → ∃ c, X.env.cells.lookup y.1 = some c := fun y hy e => (L.free y hy e).elim (fun z => I.ok.has _ (.inl z)) fun z => I.ok.has _ (.inr z)
  refine PySem.W.methodCall_KW (pl := pl) (thn (ho.run pins s σ H _ I h) fun u s1 ⟨x, H1, I1, rx, a, dx, fs, ex, ea, l, q⟩ => ?_) ht
  subst ex
  obtain rfl : u = Value.ref a := rx
  refine getmeth_ok I1 ea cl hm l ?_
  refine PySem.W.callWith_K (first := [.ref a]) (h₀ := X.base) I.ok.mod.kin hm.kp ?_ hst hpl
  rw [hst]
  show wpAny _ _ (spliced ((false, eval e1 X.env) :: backTo pos (starEach [.Lambda params body scope lpos] X.env))) _ _ s1
  refine Calls.spliced_cons (thn (he.run pins s1 σ H1 _ I1 q) fun u2 s2 ⟨y, H2, I2, r2, hT, q2⟩ => ?_)
  rw [hst2]
  show wpAny _ _ (spliced ((false, eval (.Lambda params body scope lpos) X.env) :: backTo pos (starEach [] X.env))) _ _ s2
  refine Calls.spliced_cons (lam_make2 I2 L.tb L.code L.mem L.one hT L.dfl hfree fun f c' pm ctv H3 s3 I3 eN T3 hf nf nfr hc' => ?_)
  refine Calls.spliced_nil ⟨I3.kIn, ?_⟩
  obtain ⟨sp, Fn, q3⟩ := q2 c' H3 eN T3 hc'
  obtain ⟨b2, e2, up2, in2⟩ := env0_rebase I3.env0
  have F := Fn b2 f up2 e2.mod.kin e2.mod.glob (lamB_made I3 L.fn (Caps.made I3.ok L.free L.frs L.jss) hf nf nfr in2)
  have r3 : Vals [V.ref a, y, .ref f] [Value.ref a, u2, .ref f] := .cons rfl (.cons r2 (.cons rfl .nil))
  have q4 := q3 f
  have hl : ([Value.ref a, u2, .ref f] ++ []).length = ps.length := by
    have := F.len _ _ _ _ q4
    exact this
  show wpAny _ _ (call (.ref fm) [.ref a, u2, .ref f]) _ _ _
  refine wpAny_call (codeAny_mono (F.run X.A X.stack s3 H3 ⟨[.ref a, u2, .ref f], []⟩ ([.ref a, u2, .ref f] ++ []) [.ref a, y, .ref f] Q E0 hr e2 (hb s3 _ I3.kIn hl) r3 q4) fun r s' hq => ?_)
  cases r with
  | error e => exact False.elim hq
  | ok fl =>
    cases fl with
    | ret u => exact I3.after hq
    | next => exact False.elim hq
    | brk => exact False.elim hq
    | cont => exact False.elim hq
end
end Ag

namespace Ag
open PySem PySem.Spec PyProof.Rows L2 LamX NdefX
/-! ### from the head's facts -/
section
variable {P : Program} {w : World} {K : PySem.W.Frag} {mg : Str → Option Value} {base : Heap}
theorem fun_of {x q : Str} {st : Stmt} {f : Addr} {fd : FuncData} (h : FunD K x q (defArgs st) (defBody st) (defScope st) [] [] f fd) : Fun K x q st f fd := by
  obtain ⟨⟨oc, od, dV, kV, doc, pm, an, cdv, ct, osl, rfl, lk, hcd, hD, hK⟩, kp⟩ := h
  rcases hD with ⟨_, rfl⟩ | ⟨e, _⟩
  · exact ⟨⟨oc, od, kV, doc, pm, an, cdv, ct, osl, rfl, lk, hcd⟩, kp⟩
  · exact absurd rfl e
theorem funC_of {x q : Str} {st : Stmt} {p : Str × Option Str} {fd : FuncData} (h : FunD K x q (defArgs st) (defBody st) (defScope st) [] [] (He.fAd K p) fd) : FunC K x q st (He.fAd K p) fd (He.cT K p).1 := by
  obtain ⟨⟨oc, od, dV, kV, doc, pm, an, cdv, ct, osl, rfl, lk, hcd, hD, hK⟩, kp⟩ := h
  rcases hD with ⟨_, rfl⟩ | ⟨e, _⟩
  · obtain ⟨c, rfl⟩ := He.codeIn_ref hcd
    have e : (He.cT K p).1 = c := He.codeOf_eq lk rfl
    rw [e]
    exact ⟨⟨oc, od, kV, doc, pm, an, ct, osl, rfl, lk, hcd⟩, kp⟩
  · exact absurd rfl e
/-- a promise that asks for a list frozen serves where the list is tracked as one that may change -/
theorem fnOk_frozen {k : Nat} {f : Addr} {fd : FuncData} {ps : List Str} {sp sp' : Sp} (F : FnOk P w K mg base CX0 k f fd ps sp) (hlen : ∀ vs H Q E, sp' vs H Q E → vs.length = ps.length)
    (hs : ∀ vs H Q E, sp' vs H Q E → sp vs H Q E ∨ ∃ a ys, H a = some (.lst ys) ∧ ∀ o, sp vs (upd H a (.frz o (.lst ys))) Q E) : FnOk P w K mg base CX0 k f fd ps sp' := by
  refine ⟨hlen, fun A outer s H args us vs Q E hr e0 hb r h => ?_⟩
  rcases hs vs H Q E h with h | ⟨a, ys, ha, h⟩
  · exact F.run A outer s H args us vs Q E hr e0 hb r h
  · obtain ⟨hz, its, n, rv, ho⟩ := (show ObjOk P w H s.heap a (.lst ys) from e0.hok a _ ha)
    have ne : ∀ b, H b = none → b ≠ a := fun b e z => by rw [z, ha] at e; cases e
    have at_ : ∀ b, b ≠ a → upd H a (.frz { cls := .type "list", data := .seq its.toArray n } (.lst ys)) b = H b := fun b n => upd_ne n
    have own : ∀ b y, H b = some (.own y) → upd H a (.frz { cls := .type "list", data := .seq its.toArray n } (.lst ys)) b = some (.own y) := fun b y e => by
      rw [at_ b fun z => by rw [z, ha] at e; cases e]
      exact e
    have tup : ∀ b xs, H b = some (.tup xs) → upd H a (.frz { cls := .type "list", data := .seq its.toArray n } (.lst ys)) b = some (.tup xs) := fun b y e => by
      rw [at_ b fun z => by rw [z, ha] at e; cases e]
      exact e
    have hok : HOk P w (upd H a (.frz { cls := .type "list", data := .seq its.toArray n } (.lst ys))) s.heap := fun b o e => by
      by_cases z : b = a
      · subst z
        rw [upd_same] at e
        cases e
        exact ⟨ho, hz, its, n, rv, ho⟩
      · rw [at_ b z] at e
        exact (e0.hok b o e).stay (fun _ _ _ q => q) (fun c q => own c b q) tup
    have e1 : Env0 P w K mg base A outer s (upd H a (.frz { cls := .type "list", data := .seq its.toArray n } (.lst ys))) :=
      ⟨e0.frames, e0.mod, fun b o q => ⟨(e0.bs b o q).1, by rw [at_ b (ne b (e0.bs b o q).2)]; exact (e0.bs b o q).2⟩, e0.bsz, e0.funs, fun b hb => by rw [at_ b (ne b (e0.frf b hb))]; exact e0.frf b hb, hok, e0.bare⟩
    refine codeAny_mono (F.run A outer s _ args us vs Q E hr e1 hb r (h _)) fun r s' hq => ?_
    cases r with
    | error e => exact hq
    | ok fl =>
      cases fl with
      | next => exact hq
      | brk => exact hq
      | cont => exact hq
      | ret u =>
        obtain ⟨v, H', os, bare, un, hok', rv', q⟩ := hq
        refine ⟨v, H', os, bare, ⟨fun b o e n nf nx => un.keep b o e (by rw [at_ b (ne b n)]; exact n) nf nx, fun b o e n nf nx => un.slot b o e (by rw [at_ b (ne b n)]; exact n) nf nx, fun b o e n nx => un.free b o e (by rw [at_ b (ne b n)]; exact n) nx, un.there, fun b xs e => un.tups b xs (tup b xs e), fun b o u e => un.frzs b o u ?_, fun b ps e => un.tbls b ps ?_⟩, hok', rv', q⟩
        · rw [at_ b fun z => by rw [z, ha] at e; cases e]
          exact e
        · rw [at_ b fun z => by rw [z, ha] at e; cases e]
          exact e
end
end Ag

namespace Ag
open PySem PySem.Spec PyProof.Rows L2 LamX NdefX
/-! ### an own hook: the places looked at are given -/
section
variable {fa : List He.Fa} {fn : List He.DefD} {tf : List He.Defn} {ex : PySem.W.Frag → Bool} {sel : (Addr → Option Obj) → List Addr}
def obsA (fa : List He.Fa) (fn : List He.DefD) (tf : List He.Defn) (ex : PySem.W.Frag → Bool) (sel : (Addr → Option Obj) → List Addr) (g : Addr → Option Obj) : He.AlX := (He.obsT fa fn [] (He.frT g (sel g)), ex (He.frT g (sel g)) && He.tabsB g tf (He.frT g (sel g)))
theorem saysA {w : World} {h : Heap} {K : PySem.W.Frag} (hK : ∀ b o, h.get? b = some o → He.emptyTab o = true → K.lookup b = none) (e1 : He.obsT fa fn [] K = He.valT fn [] w) (e2 : (ex K && He.tabsB h.get? tf K) = true) : He.SaysX fa fn [] tf ex w h K := by
  obtain ⟨x1, x2⟩ := Bool.and_eq_true_iff.mp e2
  have tk : ∀ t ∈ tf, PySem.W.codeHdIn K (He.cT K t).1 (He.cT K t).2 = true ∧ ∃ ob, h.get? (He.cT K t).2 = some ob ∧ He.emptyTab ob = true := fun t ht => by
    obtain ⟨y1, y2⟩ := Bool.and_eq_true_iff.mp (List.all_eq_true.mp x2 t ht)
    refine ⟨y1, ?_⟩
    revert y2
    generalize h.get? (He.cT K t).2 = oo
    intro y2
    match oo, y2 with
    | some ob, y2 => exact ⟨ob, rfl, y2⟩
    | none, y2 => cases y2
  refine ⟨e1, x1, fun t ht => (tk t ht).1, fun t ht => ?_, fun t ht => ?_⟩
  · obtain ⟨_, ob, z1, z2⟩ := tk t ht
    exact hK _ _ z1 z2
  · obtain ⟨_, ob, z1, z2⟩ := tk t ht
    rw [z1, He.emptyTab_eq z2]
theorem saysA_of {w : World} {h : Heap} (e : obsA fa fn tf ex sel h.get? = He.valX fn [] w) : He.SaysX fa fn [] tf ex w h (He.frT h.get? (sel h.get?)) :=
  saysA (fun _ _ z1 z2 => He.frT_none z1 z2) (congrArg (fun z : He.AlX => z.1) e) (congrArg (fun z : He.AlX => z.2) e)
def hookA (fa : List He.Fa) (fn : List He.DefD) (tf : List He.Defn) (ex : PySem.W.Frag → Bool) (sel : (Addr → Option Obj) → List Addr) : PySem.W.Hook where
  α := He.AlX
  obs := fun s => obsA fa fn tf ex sel s.heap.get?
  val := fun w => He.valX fn [] w
  says := fun w h => ∃ K : PySem.W.Frag, K.In h ∧ He.SaysX fa fn [] tf ex w h K
  of := fun _ _ e => ⟨_, He.frT_in, saysA_of e⟩
  keeps := fun _ _ _ ⟨K, hK, c⟩ k => ⟨K, PySem.W.Frag.In.keeps hK k, ⟨c.t, c.more, c.hd, c.out, fun p hp => k _ _ (c.empty p hp)⟩⟩
theorem obA_eq (s : PySem.W.SharedT) : obsA fa fn tf ex sel (HandSHeadRun.getT s) = (hookA fa fn tf ex sel).obs s.abs := by
  have e : HandSHeadRun.getT s = s.abs.heap.get? := funext fun a => HandSHeadRun.getT_eq s a
  rw [e]
  rfl
end
end Ag

namespace Ag
open PySem PySem.Spec PyProof.Rows L2
/-! ### the text -/
def top (i : Nat) : Stmt := PySem.Challenge.pw_armorder_k10_texts_that_tell_no_asks.main.body.getD i (.Pass ⟨0, 0, 0, 0⟩)
theorem ifd_t {p : Prop} [Decidable p] {A B : Prop} (h : p) (a : A) : if decide p = true then A else B := by
  rw [decide_eq_true h]
  exact iteT a
theorem ifd_f {p : Prop} [Decidable p] {A B : Prop} (h : ¬ p) (b : B) : if decide p = true then A else B := by
  rw [decide_eq_false h]
  exact iteF b
theorem ifnd_t {p : Prop} [Decidable p] {A B : Prop} (h : p) (b : B) : if (!decide p) = true then A else B := by
  rw [decide_eq_true h]
  exact iteF b
theorem ifnd_f {p : Prop} [Decidable p] {A B : Prop} (h : ¬ p) (a : A) : if (!decide p) = true then A else B := by
  rw [decide_eq_false h]
  exact iteT a
theorem if2d {p : Prop} [Decidable p] {A B : Prop} (h1 : p → A) (h2 : ¬ p → B) : if decide p = true then A else B := by
  by_cases h : p
  · exact ifd_t h (h1 h)
  · exact ifd_f h (h2 h)
theorem rel_int {i : Int} {t : Tok} : RelV (.int i) (.int i t) := ⟨_, rfl⟩
/-- a def that is called: its name, that it stays, how its arguments bind -/
structure Cal (K : PySem.W.Frag) (mg : Str → Option Value) (x : Str) (f : Addr) (fd : FuncData) (ps : List Str) : Prop where
  m : mg x = some (.ref f)
  k : PySem.W.keepIn K (.ref f) = true
  b : Binds K fd ps []
/-! ### own errors -/
theorem if2nd {p : Prop} [Decidable p] {A B : Prop} (h1 : p → B) (h2 : ¬ p → A) : if (!decide p) = true then A else B := by
  by_cases h : p
  · exact ifnd_t h (h1 h)
  · exact ifnd_f h (h2 h)
def clsB : Stmt → List Stmt
  | .ClassDef (body := b) .. => b
  | _ => []
def cmth (i j : Nat) : Stmt := (clsB (top i)).getD j (.Pass ⟨0, 0, 0, 0⟩)
/-- an error class with a field f, its __init__ at fI -/
structure ErrC (K : PySem.W.Frag) (mg : Str → Option Value) (x f : Str) (C fI : Addr) : Prop where
  m : mg x = some (.ref C)
  T : OexC K C
  iC : PySem.W.findIn K (.ref C) "__init__" = some (some (.ref fI))
  tI : PySem.W.typeIn K (.ref fI) = some (.type "function")
  no : PySem.W.findIn K (.ref C) f = some none
abbrev s_badask : Stmt := cmth 3 0
abbrev s_badtext : Stmt := cmth 7 0
theorem sc_badask : FnScope ["self", "number"] ["self", "number"] (defScope s_badask) := ⟨rfl, rfl, rfl, by decide +kernel, rfl, by decide +kernel, by decide +kernel⟩
theorem sc_badtext : FnScope ["self", "row"] ["self", "row"] (defScope s_badtext) := ⟨rfl, rfl, rfl, by decide +kernel, rfl, by decide +kernel, by decide +kernel⟩
section
variable {P : Program} {w : World} {K : PySem.W.Frag} {mg : Str → Option Value} {base : Heap}
theorem ok_badask {f CA C : Addr} {fd : FuncData} (F : Fun K "__init__" "BadAsk.__init__" s_badask f fd) (TA : CInit K CA) (gA : mg "ArmError" = some (.ref CA)) (T : OexC K C) (no : PySem.W.findIn K (.ref C) "number" = some none) :
    FnOk P w K mg base CX0 1 f fd ["self", "number"] (sp_xinit "number" C K) := by
  refine F.ok sc_badask (fun vs H Q E h => ?_) (fun cdv A outer s H vs Q E hr h => ?_)
  · obtain ⟨a, y, rfl, _⟩ := h
    rfl
  · obtain ⟨a, y, rfl, ea, q⟩ := h
    refine ⟨_, pss_cons (ps_expr (pe_cinit TA (by rfl) gA (pa_cons (pv 0) (pa_cons (pv 1) pa_nil)))) (pss_one (ps_ost (pv 0) (pv 1))), ?_⟩
    refine ⟨_, rfl, _, rfl, a, C, [y], rfl, (by show 1 ≤ 1000; decide), T, ea, ?_⟩
    exact ⟨_, rfl, _, rfl, a, C, rfl, T, no, .inl ⟨ea, fun d hd hda => q d hd hda⟩⟩
theorem ok_badtext {f CA C : Addr} {fd : FuncData} (F : Fun K "__init__" "BadText.__init__" s_badtext f fd) (TA : CInit K CA) (gA : mg "ArmError" = some (.ref CA)) (T : OexC K C) (no : PySem.W.findIn K (.ref C) "row" = some none) :
    FnOk P w K mg base CX0 1 f fd ["self", "row"] (sp_xinit "row" C K) := by
  refine F.ok sc_badtext (fun vs H Q E h => ?_) (fun cdv A outer s H vs Q E hr h => ?_)
  · obtain ⟨a, y, rfl, _⟩ := h
    rfl
  · obtain ⟨a, y, rfl, ea, q⟩ := h
    refine ⟨_, pss_cons (ps_expr (pe_cinit TA (by rfl) gA (pa_cons (pv 0) (pa_cons (pv 1) pa_nil)))) (pss_one (ps_ost (pv 0) (pv 1))), ?_⟩
    refine ⟨_, rfl, _, rfl, a, C, [y], rfl, (by show 1 ≤ 1000; decide), T, ea, ?_⟩
    exact ⟨_, rfl, _, rfl, a, C, rfl, T, no, .inl ⟨ea, fun d hd hda => q d hd hda⟩⟩
end
end Ag

namespace Ag
open PySem PySem.Spec PyProof.Rows L2
/-! ### need_disk -/
abbrev s_need_disk : Stmt := top 14
def sp_need_disk (K : PySem.W.Frag) : Sp := fun vs H Q _ => ∃ (v : V) (d : Disk), vs = [v] ∧ Dp K H v (dDisk d) ∧ GoodDisk d ∧ Q .non H
theorem sc_need_disk : FnScope ["disk", "tracks", "sectors", "pace", "here"] ["disk"] (defScope s_need_disk) := ⟨rfl, rfl, rfl, by decide +kernel, rfl, by decide +kernel, by decide +kernel⟩
section
variable {P : Program} {w : World} {K : PySem.W.Frag} {mg : Str → Option Value} {base : Heap}
theorem ok_need_disk {f : Addr} {fd : FuncData} (F : Fun K "need_disk" "need_disk" s_need_disk f fd) {t1 t2 t3 : Tok} (m1 : mg "MOST_TRACKS" = some (.int 64 t1)) (m2 : mg "MOST_SECTORS" = some (.int 16 t2)) (m3 : mg "MOST_PACE" = some (.int 4 t3)) :
    FnOk P w K mg base CX0 1 f fd ["disk"] (sp_need_disk K) := by
  refine F.ok sc_need_disk (fun vs H Q E h => ?_) (fun cdv A outer s H vs Q E hr h => ?_)
  · obtain ⟨v, d, rfl, _⟩ := h
    rfl
  · obtain ⟨v, d, rfl, hd, g, q⟩ := h
    obtain ⟨a, rfl, hT⟩ := dp_disk hd
    have nd := sc_need_disk.nd
    refine ⟨_, pss_cons (ps_asg (pv 0) (pg_tup rfl (pgs_cons (pg_name (i := 1) nd rfl (.inl rfl)) (pgs_cons (pg_name (i := 2) nd rfl (.inl rfl)) (pgs_cons (pg_name (i := 3) nd rfl (.inl rfl)) (pgs_cons (pg_name (i := 4) nd rfl (.inl rfl)) pgs_nil))))))
      (pss_cons (ps_if (pt_not (pt_chain op_le op_le pe_int (pv 1) (pe_glob rfl m1 rel_int))) (pss_one ps_never) pss_nil)
      (pss_cons (ps_if (pt_not (pt_chain op_le op_le pe_int (pv 2) (pe_glob rfl m2 rel_int))) (pss_one ps_never) pss_nil)
      (pss_cons (ps_if (pt_not (pt_chain op_le op_le pe_int (pv 3) (pe_glob rfl m3 rel_int))) (pss_one ps_never) pss_nil)
      (pss_one (ps_if (pt_not (pt_chain op_le op_lt pe_int (pv 4) (pv 1))) (pss_one ps_never) pss_nil))))), ?_⟩
    refine ⟨_, rfl, a, _, rfl, hT, rfl, _, _, rfl, _, _, rfl, _, _, rfl, _, _, rfl, rfl, ?_⟩
    refine ⟨_, rfl, _, _, rfl, rfl, _, rfl, ifd_t g.t1 ⟨_, _, rfl, rfl, _, rfl, ifnd_t g.t2 ?_⟩⟩
    refine ⟨_, rfl, _, _, rfl, rfl, _, rfl, ifd_t g.s1 ⟨_, _, rfl, rfl, _, rfl, ifnd_t g.s2 ?_⟩⟩
    refine ⟨_, rfl, _, _, rfl, rfl, _, rfl, ifd_t g.p1 ⟨_, _, rfl, rfl, _, rfl, ifnd_t g.p2 ?_⟩⟩
    refine ⟨_, rfl, _, _, rfl, rfl, _, rfl, ifd_t g.h1 ⟨_, rfl, _, _, rfl, rfl, _, rfl, ifnd_t g.h2 ?_⟩⟩
    exact q
end
/-! ### need_asks, which may refuse -/
abbrev s_need_asks : Stmt := top 15
/-- the ask at this place may stand -/
def Fits (d : Disk) (i : Nat) (k : Ask) : Prop := i < 40 ∧ GoodAsk d k
def sp_need_asksX (CB : Addr) (K : PySem.W.Frag) : Sp := fun vs H Q E => ∃ (v u : V) (d : Disk) (l : List Ask), vs = [v, u] ∧ Dp K H v (dDisk d) ∧ Dp K H u (dAsks l) ∧ l.length ≤ 16000000 ∧
  ((∀ i k, l[i]? = some k → Fits d i k) → Q .non H) ∧
  ∀ (i : Nat) (k : Ask), l[i]? = some k → (∀ j kj, j < i → l[j]? = some kj → Fits d j kj) → ¬ Fits d i k → ∀ e, H e = none → E (.ref CB) (some e) (upd H e (.xd [("number", .int (i : Int))]))
theorem sc_need_asks : FnScope ["disk", "asks", "number", "good", "come", "track", "sector"] ["disk", "asks"] (defScope s_need_asks) := ⟨rfl, rfl, rfl, by decide +kernel, rfl, by decide +kernel, by decide +kernel⟩
section
variable {P : Program} {w : World} {K : PySem.W.Frag} {mg : Str → Option Value} {base : Heap}
theorem ok_need_asksX {f CB fB : Addr} {fd fdB : FuncData} (F : Fun K "need_asks" "need_asks" s_need_asks f fd) (EB : ErrC K mg "BadAsk" "number" CB fB) (GB : FnOk P w K mg base CX0 1 fB fdB ["self", "number"] (sp_xinit "number" CB K)) (bB : Binds K fdB ["self", "number"] [])
    (mb_range : mg "range" = none) (mb_len : mg "len" = none) {t1 t2 : Tok} (mc_MOST_ASKS : mg "MOST_ASKS" = some (.int 40 t1)) (mc_MOST_COME : mg "MOST_COME" = some (.int 999 t2)) :
    FnOk P w K mg base (L2.CX P w) 3 f fd ["disk", "asks"] (sp_need_asksX CB K) := by
  refine F.okX sc_need_asks (fun vs H Q E h => ?_) (fun cdv A outer s H vs Q E hr h => ?_)
  · obtain ⟨v, u, d, l, rfl, _⟩ := h
    rfl
  · obtain ⟨v, u, d, l, rfl, hd, ha, hlen, q, qe⟩ := h
    obtain ⟨a, rfl, hT⟩ := dp_disk hd
    obtain ⟨b, xs, rfl, hL, hxl, hat⟩ := dp_asks ha
    have nd := sc_need_asks.nd
    have hr1 : Room (1 + 1) _ := hr
    refine ⟨_, (pss_one (ps_for (passes_of rfl) rfl (pi_range1 rfl mb_range (pa_cons (pe_callB call_len_seq (by rfl) mb_len PySem.boot_len (pa_cons (pv 1) pa_nil)) pa_nil)) (pg_name (i := 2) nd rfl (.inl rfl))
        (pss_cons (ps_asg (pe_ix (r := rIxL K) ix_list (pv 1) (pv 2) (fun _ _ => rfl)) (pg_tup rfl (pgs_cons (pg_name (i := 4) nd rfl (.inl rfl)) (pgs_cons (pg_name (i := 5) nd rfl (.inl rfl)) (pgs_cons (pg_name (i := 6) nd rfl (.inl rfl)) pgs_nil)))))
      (pss_cons (ps_set (i := 3) nd rfl (.inl rfl) (pe_and (pe_cmpR op_lt (pv 2) (pe_glob rfl mc_MOST_ASKS rel_int) (nomark _)) (pe_one (pe_chain op_le op_le pe_int (pv 4) (pe_glob rfl mc_MOST_COME rel_int)))))
      (pss_one (ps_if (PW.pt (pw_or (pt_not (pt_val (pv 3))) (pw_or (pt_not (pt_chain op_le op_lt pe_int (pv 5) (pe_ix (r := rIxT K) ix_tup (pv 0) pe_int (fun _ _ => rfl)))) (pw_or1 (pt_not (pt_chain op_le op_lt pe_int (pv 6) (pe_ix (r := rIxT K) ix_tup (pv 0) pe_int (fun _ _ => rfl)))))))) (pss_one (ps_raiseI (K := K) (takes_of rfl rfl rfl rfl) EB.T EB.iC EB.tI GB hr1 bB (by rfl) EB.m (pa_cons (pv 2) pa_nil))) pss_nil)))))), ?_⟩
    refine ⟨_, rfl, b, xs, rfl, .inl hL, _, rfl, by omega, by omega, ?_⟩
    refine for_range (lo := 0) (n := xs.length) (fun i σ H' => H' = H ∧ (∀ j kj, j < i → l[j]? = some kj → Fits d j kj) ∧ ∃ v2 v3 v4 v5 v6, σ = [some (.ref a), some (.ref b), v2, v3, v4, v5, v6]) ⟨rfl, fun j kj hj => absurd hj (Nat.not_lt_zero _), none, none, none, none, none, rfl⟩ ?_ ?_
    · rintro i σ H' hi ⟨rfl, hbef, v2, v3, v4, v5, v6, rfl⟩
      obtain ⟨k, hk⟩ : ∃ k, l[i]? = some k := ⟨_, List.getElem?_eq_getElem (by omega)⟩
      obtain ⟨p, hp, hpT, _⟩ := hat i k hk
      have bad : ¬ Fits d i k → ∀ e, H' e = none → E (.ref CB) (some e) (upd H' e (.xd [("number", .int (0 + (i : Int)))])) := fun hn e he => by
        rw [Int.zero_add]
        exact qe i k hk hbef hn e he
      have next : Fits d i k → ∀ j kj, j < i + 1 → l[j]? = some kj → Fits d j kj := fun hf j kj hj hkj => by
        rcases Nat.lt_succ_iff_lt_or_eq.mp hj with h | rfl
        · exact hbef j kj h hkj
        · rw [hk] at hkj
          cases hkj
          exact hf
      refine ⟨_, rfl, _, rfl, b, xs, (i : Int), .ref p, rfl, by rw [Int.zero_add], hL, atI_nat hp, ?_⟩
      refine ⟨p, _, rfl, hpT, rfl, _, _, rfl, _, _, rfl, _, _, rfl, rfl, ?_⟩
      refine ⟨_, rfl, _, _, rfl, rfl, _, rfl, if2d (fun h1 => ?_) (fun h1 => ?_)⟩
      · refine ⟨_, rfl, _, _, rfl, rfl, _, rfl, if2d (fun h2 => ⟨_, _, rfl, rfl, ?_⟩) (fun h2 => ?_)⟩
        · refine ⟨_, rfl, _, rfl, if2nd (fun h3 => ?_) (fun h3 => ?_)⟩
          · refine ⟨_, rfl, _, _, rfl, rfl, _, rfl, if2d (fun h4 => ⟨_, rfl, a, _, 0, _, rfl, rfl, hT, atI_nat (j := 0) rfl, _, _, rfl, rfl, _, rfl, if2nd (fun h5 => ?_) (fun h5 => ?_)⟩) (fun h4 => ?_)⟩
            · refine ⟨_, rfl, _, _, rfl, rfl, _, rfl, if2d (fun h6 => ⟨_, rfl, a, _, 1, _, rfl, rfl, hT, atI_nat (j := 1) rfl, _, _, rfl, rfl, _, rfl, if2nd (fun h7 => ?_) (fun h7 => ?_)⟩) (fun h6 => ?_)⟩
              · exact ⟨rfl, next ⟨by omega, h2, h3, h4, h5, h6, h7⟩, _, _, _, _, _, rfl⟩
              · exact ⟨_, rfl, mk_read fun e he => bad (fun z => h7 z.2.s2) e he⟩
              · exact ⟨_, rfl, iteT ⟨_, rfl, mk_read fun e he => bad (fun z => h6 z.2.s1) e he⟩⟩
            · exact iteT ⟨_, rfl, mk_read fun e he => bad (fun z => h5 z.2.t2) e he⟩
            · exact ⟨_, rfl, iteT (iteT ⟨_, rfl, mk_read fun e he => bad (fun z => h4 z.2.t1) e he⟩)⟩
          · exact iteT ⟨_, rfl, mk_read fun e he => bad (fun z => h3 z.2.c2) e he⟩
        · exact ⟨_, rfl, _, rfl, iteT (iteT ⟨_, rfl, mk_read fun e he => bad (fun z => h2 z.2.c1) e he⟩)⟩
      · exact ⟨_, rfl, _, rfl, iteT (iteT ⟨_, rfl, mk_read fun e he => bad (fun z => h1 (by have := z.1; omega)) e he⟩)⟩
    · rintro σ H' ⟨rfl, hall, _⟩
      exact q fun i k hk => hall i k (by have := (List.getElem?_eq_some_iff.mp hk).1; omega) hk
end
end Ag

namespace Ag
open PySem PySem.Spec PyProof.Rows L2
/-! ### number_of, which may refuse -/
abbrev s_number_of : Stmt := top 19
theorem goodW_facts {x : Str} (h : GoodW x) : 1 ≤ x.length ∧ x.length ≤ 3 ∧ (∀ c ∈ TL.tl x, 48 ≤ c ∧ c ≤ 57) ∧ ∀ c, atI x.cps.toList 0 = some c → c = 48 → x = Str.ofString "0" := by
  obtain ⟨n, hn, rfl⟩ := h
  obtain ⟨h1, h3⟩ := numS_len hn
  refine ⟨h1, h3, fun c hc => numS_sign hn hc, fun c hc h48 => ?_⟩
  obtain ⟨c2, e2, e3⟩ := numS_head hn
  rw [e2] at hc
  injection hc with hc
  exact e3 (hc.trans h48)
theorem figures_of {c : Nat} (h : c ∈ (Str.ofString "0123456789").cps.toList) : 48 ≤ c ∧ c ≤ 57 := by
  have e : (Str.ofString "0123456789").cps.toList = [48, 49, 50, 51, 52, 53, 54, 55, 56, 57] := by decide +kernel
  rw [e] at h
  simp only [List.mem_cons, List.not_mem_nil, or_false] at h
  omega
/-- the signs that are no figures -/
def badS (l : List Nat) : List Str := (l.filter fun c => decide (c ∉ (Str.ofString "0123456789").cps.toList)).map fun c => ⟨#[c]⟩
theorem badS_ok {x : Str} (h : WOk x) (k : Nat) : ∀ p ∈ badS (x.cps.toList.take k), WOk p := fun p hp => by
  obtain ⟨c, hc, rfl⟩ := List.mem_map.mp hp
  have hc := List.mem_of_mem_take (List.mem_filter.mp hc).1
  intro d hd
  have hd : d ∈ [c] := hd
  rw [List.mem_singleton.mp hd]
  exact h c hc
theorem badS_len (l : List Nat) : (badS l).length ≤ l.length := by
  unfold badS
  rw [List.length_map]
  exact List.length_filter_le _ _
theorem badS_nil {l : List Nat} : (badS l).isEmpty = true ↔ ∀ c ∈ l, 48 ≤ c ∧ c ≤ 57 := by
  unfold badS
  rw [List.isEmpty_iff, List.map_eq_nil_iff, List.filter_eq_nil_iff]
  constructor
  · intro h c hc
    have h := h c hc
    by_cases z : c ∈ (Str.ofString "0123456789").cps.toList
    · exact figures_of z
    · exact absurd (decide_eq_true z) h
  · intro h c hc z
    exact of_decide_eq_true z (figures (h c hc))
theorem badS_more {l : List Nat} {i c : Nat} (h : l[i]? = some c) : badS (l.take (i + 1)) = badS (l.take i) ++ (if c ∈ (Str.ofString "0123456789").cps.toList then [] else [⟨#[c]⟩]) := by
  unfold badS
  rw [take_more h, List.filter_append, List.map_append]
  congr 1
  by_cases z : c ∈ (Str.ofString "0123456789").cps.toList
  · rw [if_pos z, List.filter_cons_of_neg (by simpa using z)]
    rfl
  · rw [if_neg z, List.filter_cons_of_pos (by simpa using z)]
    rfl
def sp_number_ofX (CT : Addr) (K : PySem.W.Frag) : Sp := fun vs H Q E => ∃ (x : Str) (row : Int), vs = [.str x, .int row] ∧ x.length ≤ sizeLine ∧ WOk x ∧ (∀ n, Few n → x = numS n → ∀ H', Same H H' → Q (.int n) H') ∧
  (¬ GoodW x → ∀ H' e, Same H H' → H' e = none → E (.ref CT) (some e) (upd H' e (.xd [("row", .int row)])))
theorem sc_number_of : FnScope ["word", "row", "sign"] ["word", "row"] (defScope s_number_of) := ⟨rfl, rfl, rfl, by decide +kernel, rfl, by decide +kernel, by decide +kernel⟩
theorem rel_str {x : Str} {t : Tok} : RelV (.str x) (.str x t) := ⟨_, rfl⟩
section
variable {P : Program} {w : World} {K : PySem.W.Frag} {mg : Str → Option Value} {base : Heap}
theorem ok_number_ofX {f CT fT : Addr} {fd fdT : FuncData} (F : Fun K "number_of" "number_of" s_number_of f fd) (ET : ErrC K mg "BadText" "row" CT fT) (GT : FnOk P w K mg base CX0 1 fT fdT ["self", "row"] (sp_xinit "row" CT K)) (bT : Binds K fdT ["self", "row"] [])
    (mb_len : mg "len" = none) (mb_int : mg "int" = none) {t1 t2 : Tok} (mc_MOST_FIGURES : mg "MOST_FIGURES" = some (.int 3 t1)) (mc_FIGURES : mg "FIGURES" = some (.str "0123456789" t2)) :
    FnOk P w K mg base (L2.CX P w) 3 f fd ["word", "row"] (sp_number_ofX CT K) := by
  refine F.okX sc_number_of (fun vs H Q E h => ?_) (fun cdv A outer s H vs Q E hr h => ?_)
  · obtain ⟨n, row, rfl, _⟩ := h
    rfl
  · obtain ⟨x, row, rfl, nline, wok, q, qe⟩ := h
    have nd := sc_number_of.nd
    have hr1 : Room (1 + 1) _ := hr
    refine ⟨_, (pss_cons (ps_if (PW.pt (pw_or (pt_not (pt_chain op_le op_le pe_int (pe_callB call_len (by rfl) mb_len PySem.boot_len (pa_cons (pv 0) pa_nil)) (pe_glob rfl mc_MOST_FIGURES rel_int))) (pw_or1 (pt_cmpR (op_neD hr.units) (pe_lc (own := [("sign", 2)]) (g := (gName 2)) rfl nd (pi_str (pv 0)) (blkOk_by (own := [("sign", 2)]) (N := ["word", "row", "sign"]) (sc := defScope s_number_of) (by decide +kernel)) (fun _ _ _ _ _ => (pg_name (i := 2) nd rfl (.inl rfl))) (fun _ _ _ _ _ => (pts_one (pt_cmpR op_notIn_sign (pv 2) (pe_glob rfl mc_FIGURES rel_str) (by rfl)))) (fun _ _ _ _ _ => (pv 2))) (pe_lst pa_nil) (nomark _))))) (pss_one (ps_raiseI (K := K) (takes_of rfl rfl rfl rfl) ET.T ET.iC ET.tI GT hr1 bT (by rfl) ET.m (pa_cons (pv 1) pa_nil))) pss_nil)
      (pss_cons (ps_if (PW.pt (pw_and (pt_cmpR op_eq (pe_ix ix_str (pv 0) pe_int (fun _ _ => rfl)) pe_str (nomark _)) (pw_and1 (pt_cmpR op_ne (pv 0) pe_str (nomark _))))) (pss_one (ps_raiseI (K := K) (takes_of rfl rfl rfl rfl) ET.T ET.iC ET.tI GT hr1 bT (by rfl) ET.m (pa_cons (pv 1) pa_nil))) pss_nil)
      (pss_one (ps_ret (pe_callTy call_int_str (by rfl) mb_int (by decide +kernel) (pa_cons (pv 0) pa_nil)))))), ?_⟩
    refine ⟨_, rfl, _, _, rfl, ⟨nline, rfl⟩, ?_⟩
    refine ⟨_, _, rfl, rfl, _, rfl, if2d (fun h1 => ⟨_, _, rfl, rfl, _, rfl, if2nd (fun h3 => ?_) (fun h3 => ?_)⟩) (fun h1 => ?_)⟩
    rotate_left
    · exact iteT ⟨_, rfl, mk_read fun e he => qe (fun g => h3 (by have := (goodW_facts g).2.1; show ((x.length : Int)) ≤ 3; omega)) _ e (Same.refl _) he⟩
    · exact ⟨_, rfl, iteT (iteT ⟨_, rfl, mk_read fun e he => qe (fun g => h1 (by have := (goodW_facts g).1; show (1 : Int) ≤ (x.length : Int); omega)) _ e (Same.refl _) he⟩)⟩
    have h1 : 1 ≤ x.length := by have : (1 : Int) ≤ (x.length : Int) := h1; omega
    have h3 : x.length ≤ 3 := by have : (x.length : Int) ≤ 3 := h3; omega
    refine ⟨_, rfl, _, rfl, fun D hD => ?_⟩
    have s1 := same_new (o := .lst []) hD
    refine lc_signs (fun i H' => Same H H' ∧ H' D = some (.lst ((badS (x.cps.toList.take i)).map V.str))) ⟨s1, upd_same⟩ ?_ ?_
    · rintro i c H' hc ⟨s2, eD⟩
      have hc2 : x.cps.toList[i]? = some c := by rw [Array.getElem?_toList]; exact hc
      refine ⟨rfl, _, rfl, c, _, rfl, rfl, _, rfl, ?_⟩
      rw [badS_more hc2]
      by_cases z : c ∈ (Str.ofString "0123456789").cps.toList
      · rw [decide_eq_true z, if_pos z, List.append_nil]
        exact iteF ⟨s2, eD⟩
      · rw [decide_eq_false z, if_neg z]
        refine iteT ⟨_, rfl, _, eD, ?_, same_upd s2 hD, ?_⟩
        · rw [List.length_map]
          have := badS_len (x.cps.toList.take i)
          rw [List.length_take] at this
          have e : x.cps.toList.length = x.length := (TL.len_tl x).symm
          exact small1000 (by omega)
        · rw [upd_same, List.map_append]
          rfl
    · rintro H' ⟨s2, eD⟩
      rw [List.take_of_length_le (by rw [Array.length_toList]; exact Nat.le_refl _)] at eD
      refine ⟨Nat.zero_le _, fun z hz => ?_⟩
      have s3 := same_new (o := .lst []) hz
      have s13 := s2.trans s3
      have okb : ∀ p ∈ badS x.cps.toList, WOk p := fun p hp => badS_ok wok x.cps.toList.length p (by rw [List.take_length]; exact hp)
      refine ⟨.list ((badS x.cps.toList).map PyData.str), .list [], .lst (SqL.of (s3 _ _ eD)) (dpa_strs _), .lst (SqL.of upd_same) .nil, shaped_strs okb, rfl, ?_⟩
      rw [eqv_nilS, List.isEmpty_map]
      refine ⟨_, rfl, ?_⟩
      have badR : ∀ (G : ¬ GoodW x), ∀ (e : Addr), upd H' z (.lst []) e = none → E (.ref CT) (some e) (upd (upd H' z (.lst [])) e (.xd [("row", .int row)])) := fun G e he => qe G _ e s13 he
      by_cases hb : (badS x.cps.toList).isEmpty = true
      · rw [hb]
        refine iteF ?_
        have hfig := badS_nil.mp hb
        obtain ⟨c, hc⟩ : ∃ c, atI x.cps.toList 0 = some c := ⟨_, atI_nat (j := 0) (List.getElem?_eq_getElem (by have := TL.len_tl x; show 0 < (TL.tl x).length; omega))⟩
        have last : GoodW x → ∃ v, some (some (V.str x)) = some (some v) ∧ ∃ a m, [v] = [V.str a] ∧ intText? a = some m ∧ a.length ≤ 640 ∧ Q (.int m) (upd H' z (.lst [])) := fun ⟨n, hn, e⟩ => ⟨_, rfl, _, n, rfl, by rw [e]; exact numS_int hn, by omega, q n hn e _ s13⟩
        have c48 : c = 48 → (⟨#[c]⟩ : Str) = Str.ofString "0" := fun h => by rw [h]; decide +kernel
        have e48 : (⟨#[c]⟩ : Str) = Str.ofString "0" → c = 48 := fun e => by
          have e2 := congrArg (fun z : Str => z.cps.toList) e
          have e3 : (Str.ofString "0").cps.toList = [48] := by decide +kernel
          have e4 : [c] = [48] := e2.trans e3
          injection e4
        have h0 : (TL.tl x).head? = some 48 → c = 48 := fun h => by
          have e : atI (TL.tl x) 0 = some c := hc
          cases e2 : TL.tl x with
          | nil => rw [e2] at h; cases h
          | cons y r =>
            rw [e2] at h e
            have e3 : y = c := Option.some.inj ((atI_nat (xs := y :: r) (j := 0) rfl).symm.trans e)
            have e4 : y = 48 := Option.some.inj h
            rw [← e3, e4]
        refine ⟨_, rfl, _, _, c, rfl, rfl, nline, hc, rfl, _, rfl, if2d (fun e => ?_) (fun e => ?_)⟩
        · have e : c = 48 := e48 (by injection e)
          refine ⟨_, rfl, rfl, _, rfl, if2nd (fun e2 => ?_) (fun e2 => ?_)⟩
          · exact last (good_word h1 h3 hfig fun _ => by injection e2)
          · exact ⟨_, rfl, mk_read (badR fun g => e2 (by rw [(goodW_facts g).2.2.2 c hc e]))⟩
        · exact last (good_word h1 h3 hfig fun h => absurd (show V.str ⟨#[c]⟩ = V.str (Str.ofString "0") by rw [c48 (h0 h)]) e)
      · rw [show (badS x.cps.toList).isEmpty = false by simpa using hb]
        exact iteT ⟨_, rfl, mk_read (badR fun g => hb (badS_nil.mpr (goodW_facts g).2.2.1))⟩
end
end Ag

namespace Ag
open PySem PySem.Spec PyProof.Rows L2
/-! ### read, which may refuse -/
abbrev s_read : Stmt := top 20
inductive Out where
  | text (i : Nat)
  | ask (i : Nat)
  | read (l : List Ask)
/-- lines that tell these asks -/
def Lines (L : List Str) (l : List Ask) : Prop := L.length = l.length ∧ ∀ (i : Nat) (x : Str) (a : Ask), L[i]? = some x → l[i]? = some a → LineIs x a
def Due (d : Disk) (x : Str) : Out → Prop
  | .text i => ∃ y, (linesOf x)[i]? = some y ∧ (¬ ∃ a, LineIs y a) ∧ ∀ (j : Nat) (z : Str), j < i → (linesOf x)[j]? = some z → ∃ a, LineIs z a
  | .ask i => ∃ l k, Lines (linesOf x) l ∧ l[i]? = some k ∧ (¬ Fits d i k) ∧ ∀ (j : Nat) (kj : Ask), j < i → l[j]? = some kj → Fits d j kj
  | .read l => Lines (linesOf x) l ∧ ∀ (i : Nat) (k : Ask), l[i]? = some k → Fits d i k
theorem lines_nil (L : List Str) : Lines (L.take 0) [] := ⟨by simp, fun i x a h => by simp at h⟩
theorem lines_snoc {L : List Str} {l : List Ask} {i : Nat} {x : Str} {a : Ask} (h : Lines (L.take i) l) (hx : L[i]? = some x) (ha : LineIs x a) : Lines (L.take (i + 1)) (l ++ [a]) := by
  rw [take_more hx]
  obtain ⟨h1, h2⟩ := h
  refine ⟨by rw [List.length_append, List.length_append, h1]; rfl, fun j y b hy hb => ?_⟩
  by_cases hj : j < (L.take i).length
  · rw [List.getElem?_append_left hj] at hy
    rw [List.getElem?_append_left (by omega)] at hb
    exact h2 j y b hy hb
  · rw [List.getElem?_append_right (by omega)] at hy hb
    rw [h1] at hy
    have e := (List.getElem?_eq_some_iff.mp hb).1
    have e0 : j - l.length = 0 := by
      simp only [List.length_cons, List.length_nil] at e
      omega
    rw [e0] at hy hb
    cases hy
    cases hb
    exact ha
theorem lines_unique {L : List Str} {l m : List Ask} (h : Lines L l) (h2 : Lines L m) : l = m := by
  refine List.ext_getElem? fun i => ?_
  by_cases hi : i < L.length
  · obtain ⟨x, hx⟩ : ∃ x, L[i]? = some x := ⟨_, List.getElem?_eq_getElem hi⟩
    have e1 : l[i]? = some (l[i]'(by have := h.1; omega)) := List.getElem?_eq_getElem _
    have e2 : m[i]? = some (m[i]'(by have := h2.1; omega)) := List.getElem?_eq_getElem _
    rw [e1, e2, line_unique (h.2 i x _ hx e1) (h2.2 i x _ hx e2)]
  · rw [List.getElem?_eq_none (by have := h.1; omega), List.getElem?_eq_none (by have := h2.1; omega)]
theorem lines_all {L : List Str} {l : List Ask} (h : Lines L l) {i : Nat} {x : Str} (hx : L[i]? = some x) : ∃ a, l[i]? = some a ∧ LineIs x a := by
  have hi := (List.getElem?_eq_some_iff.mp hx).1
  have e1 : l[i]? = some (l[i]'(by have := h.1; omega)) := List.getElem?_eq_getElem _
  exact ⟨_, e1, h.2 i x _ hx e1⟩
theorem due_unique {d : Disk} {x : Str} : ∀ {o p : Out}, Due d x o → Due d x p → o = p
  | .text i, .text j, ⟨y, h1, h2, h3⟩, ⟨z, k1, k2, k3⟩ => by
    rcases Nat.lt_trichotomy i j with h | h | h
    · exact absurd (k3 i y h h1) h2
    · rw [h]
    · exact absurd (h3 j z h k1) k2
  | .text i, .ask j, ⟨y, h1, h2, h3⟩, ⟨l, k, k1, _⟩ => absurd (let ⟨a, _, h⟩ := lines_all k1 h1; ⟨a, h⟩) h2
  | .text i, .read l, ⟨y, h1, h2, h3⟩, ⟨k1, _⟩ => absurd (let ⟨a, _, h⟩ := lines_all k1 h1; ⟨a, h⟩) h2
  | .ask j, .text i, ⟨l, k, k1, _⟩, ⟨y, h1, h2, h3⟩ => absurd (let ⟨a, _, h⟩ := lines_all k1 h1; ⟨a, h⟩) h2
  | .read l, .text i, ⟨k1, _⟩, ⟨y, h1, h2, h3⟩ => absurd (let ⟨a, _, h⟩ := lines_all k1 h1; ⟨a, h⟩) h2
  | .read l, .read m, ⟨h, _⟩, ⟨k, _⟩ => by rw [lines_unique h k]
  | .read l, .ask i, ⟨h, h2⟩, ⟨m, k, k1, k2, k3, _⟩ => by
    cases lines_unique h k1
    exact absurd (h2 i k k2) k3
  | .ask i, .read l, ⟨m, k, k1, k2, k3, _⟩, ⟨h, h2⟩ => by
    cases lines_unique h k1
    exact absurd (h2 i k k2) k3
  | .ask i, .ask j, ⟨m, k, k1, k2, k3, k4⟩, ⟨l, q, q1, q2, q3, q4⟩ => by
    cases lines_unique k1 q1
    rcases Nat.lt_trichotomy i j with h | h | h
    · exact absurd (q4 i k h k2) k3
    · rw [h]
    · exact absurd (k4 j q h q2) q3
/-- what reading a text comes to -/
def sp_readX (CB CT : Addr) (K : PySem.W.Frag) : Sp := fun vs H Q E => ∃ (v : V) (d : Disk) (x : Str), vs = [v, .str x] ∧ Dp K H v (dDisk d) ∧ GoodDisk d ∧ x.length ≤ 15000000 ∧ WOk x ∧
  (∀ l, Due d x (.read l) → ∀ (H' : Hp) (p : Addr) (xs : List V), Same H H' → H p = none → H' p = some (.lst xs) → DpAll K H' xs (l.map dAsk) → Q (.ref p) H') ∧
  (∀ i, Due d x (.text i) → ∀ (H' : Hp) (e : Addr), Same H H' → H' e = none → E (.ref CT) (some e) (upd H' e (.xd [("row", .int (i : Int))]))) ∧
  (∀ i, Due d x (.ask i) → ∀ (H' : Hp) (e : Addr), Same H H' → H' e = none → E (.ref CB) (some e) (upd H' e (.xd [("number", .int (i : Int))])))
theorem lines_any {x : Str} {σ : L2.St} {H : Hp} {G : VK} (hx : x.length ≤ 15000000) (hσ : σ[1]? = some (some (.str x))) (h : ∀ D, H D = none → G (.ref D) (upd H D (.lst ((linesOf x).map V.str)))) :
    tIf (tTest (tOp rNe (tVar 1) (tC (V.str (Str.ofString ""))))) (tM1 (fun x xs H Q => ∃ a b, x = V.str a ∧ xs = [V.str b] ∧ (b.length == 0) = false ∧ a.length + 2 ≤ sizeLine ∧ rNewStrs (Txt.split a b) H Q) (tVar 1) (tC (V.str (Str.ofString "\n"))))
      (tLst tNil) σ H G := by
  refine ⟨_, hσ, rfl, _, rfl, ?_⟩
  by_cases hl : x = Str.ofString ""
  · unfold linesOf at h
    rw [if_pos hl] at h
    exact ifnd_t (by rw [hl]) ⟨Nat.zero_le _, h⟩
  · unfold linesOf at h
    rw [if_neg hl] at h
    refine ifnd_f (fun e => ?_) ⟨_, hσ, ⟨_, rfl⟩, _, _, rfl, rfl, by decide +kernel, by rw [sizeLine_eq]; omega, ?_⟩
    · injection e with e
      exact hl e
    · exact h
theorem sc_read : FnScope ["disk", "text", "found", "lines", "row", "words", "word"] ["disk", "text"] (defScope s_read) := ⟨rfl, rfl, rfl, by decide +kernel, rfl, by decide +kernel, by decide +kernel⟩
section
variable {P : Program} {w : World} {K : PySem.W.Frag} {mg : Str → Option Value} {base : Heap}
theorem ok_readX {f CB CT fT f1 f2 f3 : Addr} {fd fdT fd1 fd2 fd3 : FuncData} (F : Fun K "read" "read" s_read f fd)
    (ET : ErrC K mg "BadText" "row" CT fT) (GT : FnOk P w K mg base CX0 1 fT fdT ["self", "row"] (sp_xinit "row" CT K)) (bT : Binds K fdT ["self", "row"] [])
    (G_need_disk : FnOk P w K mg base CX0 1 f1 fd1 ["disk"] (sp_need_disk K)) (C_need_disk : Cal K mg "need_disk" f1 fd1 ["disk"])
    (G_need_asks : FnOk P w K mg base (L2.CX P w) 3 f2 fd2 ["disk", "asks"] (sp_need_asksX CB K)) (C_need_asks : Cal K mg "need_asks" f2 fd2 ["disk", "asks"])
    (G_number_of : FnOk P w K mg base (L2.CX P w) 3 f3 fd3 ["word", "row"] (sp_number_ofX CT K)) (C_number_of : Cal K mg "number_of" f3 fd3 ["word", "row"])
    (mb_len : mg "len" = none) (mb_range : mg "range" = none) (mb_tuple : mg "tuple" = none) : FnOk P w K mg base (L2.CX P w) 5 f fd ["disk", "text"] (sp_readX CB CT K) := by
  refine F.okX sc_read (fun vs H Q E h => ?_) (fun cdv A outer s H vs Q E hr h => ?_)
  · obtain ⟨v, d, x, rfl, _⟩ := h
    rfl
  · obtain ⟨v, d, x, rfl, hd, gd, hx, wok, qr, qt, qa⟩ := h
    have nd := sc_read.nd
    have hr1 : Room (1 + 1) _ := hr.mono (by decide)
    have hr_need_disk : Room 1 _ := hr.mono (by decide)
    have hr_need_asks : Room 3 _ := hr.mono (by decide)
    have hr_number_of : Room 3 _ := hr.mono (by decide)
    refine ⟨_, (pss_cons (ps_expr (pe_call G_need_disk hr_need_disk rfl C_need_disk.m C_need_disk.k C_need_disk.b .nil pass0 (pa_cons (pv 0) pa_nil)))
      (pss_cons (ps_set (i := 2) nd rfl (.inl rfl) (pe_lst pa_nil))
      (pss_cons (ps_set (i := 3) nd rfl (.inl rfl) (pe_ifExp (pt_cmpR op_ne (pv 1) pe_str (nomark _)) (pe_split (pv 1) pe_str) (pe_lst pa_nil)))
      (pss_cons (ps_for (passes_of rfl) rfl (pi_range1 rfl mb_range (pa_cons (pe_callB call_len_seq (by rfl) mb_len PySem.boot_len (pa_cons (pv 3) pa_nil)) pa_nil)) (pg_name (i := 4) nd rfl (.inr rfl))
        (pss_cons (ps_set (i := 5) nd rfl (.inl rfl) (pe_split (pe_ix (r := rIxL K) ix_list (pv 3) (pv 4) (fun _ _ => rfl)) pe_str))
      (pss_cons (ps_if (pt_cmpR op_ne (pe_callB call_len_seq (by rfl) mb_len PySem.boot_len (pa_cons (pv 5) pa_nil)) pe_int (nomark _)) (pss_one (ps_raiseI (K := K) (takes_of rfl rfl rfl rfl) ET.T ET.iC ET.tI GT hr1 bT (by rfl) ET.m (pa_cons (pv 4) pa_nil))) pss_nil)
      (pss_one (ps_expr (pe_bm PySem.F.plainAttrs_list PySem.F.slot_list_append PySem.F.type_list_append mt_append (pv 2) (pa_cons (pe_tupleOf rfl mb_tuple (pe_lcX (own := [("word", 6)]) (g := (gName 6)) (W := E) rfl rfl (takes_of rfl rfl rfl rfl) rfl nd (pi_list (pv 5)) (blkOk_by (own := [("word", 6)]) (N := ["disk", "text", "found", "lines", "row", "words", "word"]) (sc := defScope s_read) (by decide +kernel)) (fun _ _ _ _ _ _ => (pg_name (i := 6) nd rfl (.inl rfl))) (fun _ _ _ _ _ _ pass => (pe_callS G_number_of hr_number_of (by rfl) C_number_of.m C_number_of.k C_number_of.b (fun σ => pass σ) (pa_cons (pv 6) (pa_cons (pv 4) pa_nil)))))) pa_nil)))))))
      (pss_cons (ps_expr (pe_callS G_need_asks hr_need_asks (by rfl) C_need_asks.m C_need_asks.k C_need_asks.b (fun σ => passAt (takes_of rfl rfl rfl rfl) σ) (pa_cons (pv 0) (pa_cons (pv 2) pa_nil))))
      (pss_one (ps_ret (pv 2)))))))), ?_⟩
    refine ⟨_, rfl, v, d, rfl, hd, gd, ?_⟩
    refine ⟨Nat.zero_le _, fun F hF => ?_⟩
    have s1 := same_new (o := .lst []) hF
    refine lines_any hx rfl fun L hL => ?_
    have s2 := same_new (o := .lst ((linesOf x).map V.str)) hL
    have nFL : F ≠ L := ne_of_none upd_same hL
    obtain ⟨hn1, hn2⟩ := lines_len x
    have hsl := sizeLine_eq
    have hll : ((linesOf x).map V.str).length = (linesOf x).length := List.length_map ..
    refine ⟨_, rfl, L, (linesOf x).map V.str, rfl, .inl (SqL.of upd_same), (linesOf x).length, by rw [hll], by omega, by omega, ?_⟩
    refine for_range (lo := 0) (n := (linesOf x).length) (fun i σ H' => SameBut F (upd (upd H F (.lst [])) L (.lst ((linesOf x).map V.str))) H' ∧ ∃ (xs : List V) (l : List Ask) (v4 v5 : Option V), σ = [some v, some (.str x), some (.ref F), some (.ref L), v4, v5, none] ∧
        xs.length = i ∧ l.length = i ∧ Lines ((linesOf x).take i) l ∧ H' F = some (.lst xs) ∧ DpAll K (wo H' F) xs (l.map dAsk)) ⟨sb_refl, [], [], none, none, rfl, rfl, rfl, lines_nil _, s2 _ _ upd_same, .nil⟩ ?_ ?_
    · rintro i σ H' hi ⟨sb, xs, l, v4, v5, rfl, hxl, hll2, hlines, eF, hda⟩
      obtain ⟨y, hy⟩ : ∃ y, (linesOf x)[i]? = some y := ⟨_, List.getElem?_eq_getElem hi⟩
      have hym := List.mem_of_getElem? hy
      obtain ⟨hyl, hyw⟩ := hn2 y hym
      have hyw := hyw wok
      obtain ⟨hwn, hwl⟩ := words_len y
      have eL := sb _ _ nFL.symm upd_same
      have sH : Same H H' := same_sb (s1.trans s2 : Same H _) hF sb
      have hbef : ∀ (j : Nat) (z : Str), j < i → (linesOf x)[j]? = some z → ∃ a, LineIs z a := fun j z hj hz => by
        obtain ⟨a, _, h⟩ := lines_all hlines (show ((linesOf x).take i)[j]? = some z by rw [List.getElem?_take, if_pos hj]; exact hz)
        exact ⟨a, h⟩
      have bad : ¬ (∃ a, LineIs y a) → ∀ (H2 : Hp) (e : Addr), Same H' H2 → H2 e = none → E (.ref CT) (some e) (upd H2 e (.xd [("row", .int (0 + (i : Int)))])) := fun hb H2 e s he => by
        rw [Int.zero_add]
        exact qt i ⟨y, hy, hb, hbef⟩ H2 e (sH.trans s) he
      refine ⟨_, rfl, _, rfl, L, _, (i : Int), .str y, rfl, by rw [Int.zero_add], SqL.of eL, atI_nat (by rw [List.getElem?_map, hy]; rfl), ?_⟩
      refine ⟨⟨_, rfl⟩, _, _, rfl, rfl, by decide +kernel, by omega, ?_⟩
      show rNewStrs (wordsOf y) H' _
      intro W hW
      have s3 := same_new (o := .lst ((wordsOf y).map V.str)) hW
      have eF3 := s3 _ _ eF
      have nFW : F ≠ W := ne_of_none eF hW
      have sF3 : SameBut F (upd (upd H F (.lst [])) L (.lst ((linesOf x).map V.str))) (upd H' W (.lst ((wordsOf y).map V.str))) := sb_trans sb (sb_of s3)
      have hda3 : DpAll K (wo (upd H' W (.lst ((wordsOf y).map V.str))) F) xs (l.map dAsk) := dpa_same (wo_mono s3) hda
      have eW : upd H' W (.lst ((wordsOf y).map V.str)) W = some (.lst ((wordsOf y).map V.str)) := upd_same
      revert eF3 sF3 hda3 eW s3
      generalize upd H' W (.lst ((wordsOf y).map V.str)) = H3
      intro s3 eF3 sF3 hda3 eW
      refine ⟨_, rfl, W, _, rfl, .inl (SqL.of eW), rfl, _, rfl, if2nd (fun h3 => ?_) (fun h3 => ?_)⟩
      rotate_left
      · exact ⟨_, rfl, mk_read fun e he => bad (fun ⟨a, ha⟩ => h3 (by
          have := (line_good ha).1
          rw [List.length_map, this]
          rfl)) H3 e s3 he⟩
      have hw3 : (wordsOf y).length = 3 := by
        rw [List.length_map] at h3
        have h3 : V.int ((wordsOf y).length : Int) = V.int 3 := h3
        injection h3 with h3
        omega
      refine ⟨_, rfl, .inl ⟨rfl, _, SqL.of eF3⟩, ?_⟩
      refine ⟨_, rfl, W, rfl, ⟨_, SqL.of eW⟩, fun D hD => ?_⟩
      have s4 := same_new (o := .lst []) hD
      refine lc_list (K := K) (a := W) (xs := (wordsOf y).map V.str) (fun j H'' => Same H3 H'' ∧ ∃ ns : List Int, H'' D = some (.lst (ns.map V.int)) ∧ (wordsOf y).take j = ns.map numS ∧ ∀ n ∈ ns, Few n) ⟨s4, [], upd_same, by simp, fun n hn => by cases hn⟩ (fun j H'' _ ⟨s, _⟩ => s.seq (SqL.of eW)) ?_ ?_
      · rintro j z H'' hj ⟨s5, ns, eD, hns, hfew⟩
        obtain ⟨q, hq, rfl⟩ : ∃ q, (wordsOf y)[j]? = some q ∧ z = .str q := by
          rw [List.getElem?_map] at hj
          cases e : (wordsOf y)[j]? with
          | none => rw [e] at hj; cases hj
          | some n => rw [e] at hj; exact ⟨n, rfl, (Option.some.inj hj).symm⟩
        have hqm := List.mem_of_getElem? hq
        obtain ⟨hql, hqw⟩ := hwl q hqm
        have hnl : ns.length ≤ 3 := by
          have := congrArg List.length hns
          rw [List.length_take, List.length_map] at this
          omega
        refine ⟨rfl, _, rfl, _, rfl, q, _, rfl, by omega, hqw hyw, fun n hn e H4 s6 => ⟨_, s6 _ _ eD, ?_, same_upd (s5.trans s6) hD, ns ++ [n], ?_, ?_, ?_⟩, fun hg H4 e s6 he => ?_⟩
        · rw [List.length_map]
          exact small1000 (by omega)
        · rw [upd_same, List.map_append]
          rfl
        · rw [take_more hq, hns, e, List.map_append]
          rfl
        · intro m hm
          rcases List.mem_append.mp hm with hm | hm
          · exact hfew m hm
          · rw [List.mem_singleton.mp hm]
            exact hn
        · exact bad (fun ⟨a, ha⟩ => hg ((line_good ha).2 q hqm)) H4 e (s3.trans (s5.trans s6)) he
      · rintro H'' ⟨s5, ns, eD, hns, hfew⟩
        rw [List.take_of_length_le (by rw [List.length_map]; exact Nat.le_refl _)] at hns
        obtain ⟨k, rfl, hk⟩ : ∃ k : Ask, ns = askNs k ∧ LineIs y k := by
          have hl := congrArg List.length hns
          rw [hw3, List.length_map] at hl
          match ns, hl with
          | [a, b, c], _ => exact ⟨(a, b, c), rfl, hns, hfew⟩
        refine .inl ⟨D, _, rfl, SqL.of eD, fun p hp => ?_⟩
        have s6 := same_new (o := HO.tup ((askNs k).map V.int)) hp
        have s36 := s5.trans s6
        have eF6 := s36 _ _ eF3
        have nFp : F ≠ p := ne_of_none (s5 _ _ eF3) hp
        refine ⟨F, xs, .ref p, rfl, rfl, eF6, by omega, ?_⟩
        refine ⟨sb_upd (sb_trans sF3 (sb_of s36)), xs ++ [.ref p], l ++ [k], some (.int (0 + (i : Int))), some (.ref W), rfl, by rw [List.length_append, hxl]; rfl, by rw [List.length_append, hll2]; rfl, lines_snoc hlines hy hk, upd_same, ?_⟩
        rw [List.map_append]
        refine dpa_snoc (dpa_same (sb_wo (sb_upd (sb_of s36))) hda3) ?_
        exact dp_tints_of (ns := askNs k) (.inl (.inl (by rw [wo_ne nFp.symm, upd_ne nFp.symm, upd_same])))
    · rintro σ H' ⟨sb, xs, l, v4, v5, rfl, hxl, hll2, hlines, eF, hda⟩
      rw [List.take_of_length_le (Nat.le_refl _)] at hlines
      have s4 : Same H H' := same_sb (s1.trans s2 : Same H _) hF sb
      have hda' := dpa_same wo_sub hda
      refine ⟨_, rfl, _, rfl, v, _, d, l, rfl, dp_same s4 hd, .lst (SqL.of eF) hda', by omega, fun hfit => ?_, fun i k hk hb hn e he => ?_⟩
      · exact ⟨_, rfl, qr l ⟨hlines, hfit⟩ H' F xs s4 hF eF hda'⟩
      · exact qa i ⟨l, k, hlines, hk, hn, hb⟩ H' e s4 he
end
end Ag

namespace Ag
open PySem PySem.Spec PyProof.Rows L2
/-! ### the law's own look at a line -/
abbrev s_l_numbers : Stmt := top 27
open Classical in
noncomputable def askOf (y : Str) : Option Ask := if h : ∃ a, LineIs y a then some h.choose else none
theorem askOf_is {y : Str} {a : Ask} (h : LineIs y a) : askOf y = some a := by
  have h2 : ∃ a, LineIs y a := ⟨a, h⟩
  unfold askOf
  rw [dif_pos h2, line_unique h2.choose_spec h]
theorem askOf_not {y : Str} (h : ¬ ∃ a, LineIs y a) : askOf y = none := by
  unfold askOf
  rw [dif_neg h]
theorem askOf_some {y : Str} {a : Ask} (h : askOf y = some a) : LineIs y a := by
  by_cases z : ∃ b, LineIs y b
  · obtain ⟨b, hb⟩ := z
    rw [askOf_is hb] at h
    cases h
    exact hb
  · rw [askOf_not z] at h
    cases h
def dRowO : Option Ask → PyData
  | none => .none
  | some a => dAsk a
def sp_l_numbers (K : PySem.W.Frag) : Sp := fun vs H Q _ => ∃ (W : Addr) (y : Str), vs = [.ref W] ∧ SqL K H W ((wordsOf y).map V.str) ∧ y.length ≤ 15000000 ∧ WOk y ∧ ∀ (H' : Hp) (v : V), Same H H' → Dp K H' v (dRowO (askOf y)) → Q v H'
theorem sc_l_numbers : FnScope ["_law_words", "_law_found", "_law_word", "_law_sign"] ["_law_words"] (defScope s_l_numbers) := ⟨rfl, rfl, rfl, by decide +kernel, rfl, by decide +kernel, by decide +kernel⟩
section
variable {P : Program} {w : World} {K : PySem.W.Frag} {mg : Str → Option Value} {base : Heap}
theorem ok_l_numbers {f : Addr} {fd : FuncData} (F : Fun K "_law_numbers" "_law_numbers" s_l_numbers f fd) (mb_len : mg "len" = none) (mb_int : mg "int" = none) (mb_tuple : mg "tuple" = none) :
    FnOk P w K mg base CX0 1 f fd ["_law_words"] (sp_l_numbers K) := by
  refine F.ok sc_l_numbers (fun vs H Q E h => ?_) (fun cdv A outer s H vs Q E hr h => ?_)
  · obtain ⟨W, y, rfl, _⟩ := h
    rfl
  · obtain ⟨W, y, rfl, hW, hy, wok, q⟩ := h
    have nd := sc_l_numbers.nd
    obtain ⟨hwn, hwl⟩ := words_len y
    have hsl := sizeLine_eq
    refine ⟨_, (pss_cons (ps_set (i := 1) nd rfl (.inl rfl) (pe_lst pa_nil))
      (pss_cons (ps_for PassesOwn.never rfl (pi_list (pv 0)) (pg_name (i := 2) nd rfl (.inl rfl))
        (pss_cons (ps_if (PW.pt (pw_or (pt_cmpR op_eq (pv 2) pe_str (nomark _)) (pw_or (pt_cmpR op_gt (pe_callB call_len (by rfl) mb_len PySem.boot_len (pa_cons (pv 2) pa_nil)) pe_int (nomark _)) (pw_or1 (pt_cmpR (op_neD hr.units) (pe_lc (own := [("_law_sign", 3)]) (g := (gName 3)) rfl nd (pi_str (pv 2)) (blkOk_by (own := [("_law_sign", 3)]) (N := ["_law_words", "_law_found", "_law_word", "_law_sign"]) (sc := defScope s_l_numbers) (by decide +kernel)) (fun _ _ _ _ _ => (pg_name (i := 3) nd rfl (.inl rfl))) (fun _ _ _ _ _ => (pts_one (pt_cmpR op_notIn_sign (pv 3) pe_str (by rfl)))) (fun _ _ _ _ _ => (pv 3))) (pe_lst pa_nil) (nomark _)))))) (pss_one (ps_ret pe_non)) pss_nil)
      (pss_cons (ps_if (PW.pt (pw_and (pt_cmpR op_eq (pe_ix ix_str (pv 2) pe_int (fun _ _ => rfl)) pe_str (nomark _)) (pw_and1 (pt_cmpR op_gt (pe_callB call_len (by rfl) mb_len PySem.boot_len (pa_cons (pv 2) pa_nil)) pe_int (nomark _))))) (pss_one (ps_ret pe_non)) pss_nil)
      (pss_one (ps_expr (pe_bm PySem.F.plainAttrs_list PySem.F.slot_list_append PySem.F.type_list_append mt_append (pv 1) (pa_cons (pe_callTy call_int_str (by rfl) mb_int (by decide +kernel) (pa_cons (pv 2) pa_nil)) pa_nil)))))))
      (pss_one (ps_ret (pe_ifExp (pt_cmpR op_eq (pe_callB call_len_seq (by rfl) mb_len PySem.boot_len (pa_cons (pv 1) pa_nil)) pe_int (nomark _)) (pe_tupleOf rfl mb_tuple (pv 1)) pe_non))))), ?_⟩
    refine ⟨Nat.zero_le _, fun F hF => ?_⟩
    have s1 := same_new (o := .lst []) hF
    have eF1 : upd H F (.lst []) F = some (.lst []) := upd_same
    revert s1 eF1
    generalize upd H F (.lst []) = H1
    intro s1 eF1
    refine ⟨_, rfl, W, rfl, ⟨_, s1.seq hW⟩, ?_⟩
    refine for_list (K := K) (a := W) (xs := (wordsOf y).map V.str) (fun j σ H' => SameBut F H1 H' ∧ ∃ (ns : List Int) (v2 v3 : Option V), σ = [some (.ref W), some (.ref F), v2, v3] ∧ H' F = some (.lst (ns.map V.int)) ∧ (wordsOf y).take j = ns.map numS ∧ ∀ n ∈ ns, Few n) ⟨sb_refl, [], none, none, rfl, eF1, by simp, fun n hn => by cases hn⟩ (fun j σ H' _ ⟨sb, _⟩ => (same_sb s1 hF sb).seq hW) ?_ ?_
    · rintro j z σ H' hj ⟨sb, ns, v2, v3, rfl, eF, hns, hfew⟩
      obtain ⟨x, hx, rfl⟩ : ∃ x, (wordsOf y)[j]? = some x ∧ z = .str x := by
        rw [List.getElem?_map] at hj
        cases e : (wordsOf y)[j]? with
        | none => rw [e] at hj; cases hj
        | some n => rw [e] at hj; exact ⟨n, rfl, (Option.some.inj hj).symm⟩
      have hxm := List.mem_of_getElem? hx
      obtain ⟨hxl, hxw⟩ := hwl x hxm
      have hxw := hxw wok
      have sH : Same H H' := same_sb s1 hF sb
      have bad : ¬ GoodW x → ∀ H2, Same H' H2 → Q .non H2 := fun hg H2 s => q H2 .non (sH.trans s) (by
        rw [askOf_not fun ⟨a, ha⟩ => hg ((line_good ha).2 x hxm)]
        exact .non)
      refine ⟨_, rfl, rfl, _, rfl, if2d (fun h0 => ?_) (fun h0 => ?_)⟩
      · refine iteT (bad (fun g => ?_) _ (Same.refl _))
        have h0 : x = Str.ofString "" := by injection h0
        have h1 := (goodW_facts g).1
        rw [h0] at h1
        exact absurd h1 (by decide +kernel)
      refine ⟨_, rfl, _, _, rfl, ⟨by omega, rfl⟩, _, _, rfl, rfl, _, rfl, if2d (fun h3 => ?_) (fun h3 => ?_)⟩
      · exact iteT (bad (fun g => by
          have h1 := (goodW_facts g).2.1
          have h3 : (3 : Int) < (x.length : Int) := h3
          omega) _ (Same.refl _))
      have h3 : x.length ≤ 3 := by
        have h3 : ¬ (3 : Int) < (x.length : Int) := h3
        omega
      have h1 : 1 ≤ x.length := by
        have e : x.length ≠ 0 := fun e => h0 (by
          rw [show x = Str.ofString "" from str_ext (by
            have e2 : TL.tl x = [] := List.length_eq_zero_iff.mp (by rw [← TL.len_tl]; exact e)
            rw [e2]
            decide +kernel)])
        omega
      refine ⟨_, rfl, _, rfl, fun D hD => ?_⟩
      have s2 := same_new (o := .lst []) hD
      refine lc_signs (fun i H'' => Same H' H'' ∧ H'' D = some (.lst ((badS (x.cps.toList.take i)).map V.str))) ⟨s2, upd_same⟩ ?_ ?_
      · rintro i c H'' hc ⟨s2, eD⟩
        have hc2 : x.cps.toList[i]? = some c := by rw [Array.getElem?_toList]; exact hc
        refine ⟨rfl, _, rfl, c, _, rfl, rfl, _, rfl, ?_⟩
        rw [badS_more hc2]
        by_cases z : c ∈ (Str.ofString "0123456789").cps.toList
        · rw [decide_eq_true z, if_pos z, List.append_nil]
          exact iteF ⟨s2, eD⟩
        · rw [decide_eq_false z, if_neg z]
          refine iteT ⟨_, rfl, _, eD, ?_, same_upd s2 hD, ?_⟩
          · rw [List.length_map]
            have := badS_len (x.cps.toList.take i)
            rw [List.length_take] at this
            have e : x.cps.toList.length = x.length := (TL.len_tl x).symm
            exact small1000 (by omega)
          · rw [upd_same, List.map_append]
            rfl
      · rintro H2 ⟨s2, eD⟩
        rw [List.take_of_length_le (by rw [Array.length_toList]; exact Nat.le_refl _)] at eD
        refine ⟨Nat.zero_le _, fun z hz => ?_⟩
        have s3 := same_new (o := .lst []) hz
        have s13 := s2.trans s3
        have okb : ∀ p ∈ badS x.cps.toList, WOk p := fun p hp => badS_ok (hxw) x.cps.toList.length p (by rw [List.take_length]; exact hp)
        refine ⟨.list ((badS x.cps.toList).map PyData.str), .list [], .lst (SqL.of (s3 _ _ eD)) (dpa_strs _), .lst (SqL.of upd_same) .nil, shaped_strs okb, rfl, ?_⟩
        rw [eqv_nilS, List.isEmpty_map]
        refine ⟨_, rfl, ?_⟩
        revert s13
        generalize upd H2 z (.lst []) = H3
        intro s13
        have eF3 := s13 _ _ eF
        by_cases hb : (badS x.cps.toList).isEmpty = true
        · rw [hb]
          refine iteF ?_
          have hfig := badS_nil.mp hb
          obtain ⟨c, hc⟩ : ∃ c, atI x.cps.toList 0 = some c := ⟨_, atI_nat (j := 0) (List.getElem?_eq_getElem (by have := TL.len_tl x; show 0 < (TL.tl x).length; omega))⟩
          have c48 : c = 48 → (⟨#[c]⟩ : Str) = Str.ofString "0" := fun h => by rw [h]; decide +kernel
          have e48 : (⟨#[c]⟩ : Str) = Str.ofString "0" → c = 48 := fun e => by
            have e2 := congrArg (fun z : Str => z.cps.toList) e
            have e3 : (Str.ofString "0").cps.toList = [48] := by decide +kernel
            have e4 : [c] = [48] := e2.trans e3
            injection e4
          have h0' : (TL.tl x).head? = some 48 → c = 48 := fun h => by
            have e : atI (TL.tl x) 0 = some c := hc
            cases e2 : TL.tl x with
            | nil => rw [e2] at h; cases h
            | cons y r =>
              rw [e2] at h e
              have e3 : y = c := Option.some.inj ((atI_nat (xs := y :: r) (j := 0) rfl).symm.trans e)
              have e4 : y = 48 := Option.some.inj h
              rw [← e3, e4]
          have hnl : ns.length ≤ 15000001 := by
            have := congrArg List.length hns
            rw [List.length_take, List.length_map] at this
            omega
          have step : ∀ n, Few n → x = numS n → SameBut F H1 (upd H3 F (.lst (ns.map V.int ++ [.int n]))) ∧ ∃ (ms : List Int) (v2 v3' : Option V), [some (V.ref W), some (V.ref F), some (V.str x), v3] = [some (V.ref W), some (V.ref F), v2, v3'] ∧ upd H3 F (.lst (ns.map V.int ++ [.int n])) F = some (.lst (ms.map V.int)) ∧ (wordsOf y).take (j + 1) = ms.map numS ∧ ∀ n ∈ ms, Few n := fun n hn e => by
            refine ⟨sb_upd (sb_trans sb (sb_of s13)), ns ++ [n], _, _, rfl, ?_, ?_, ?_⟩
            · rw [upd_same, List.map_append]
              rfl
            · rw [take_more hx, hns, e, List.map_append]
              rfl
            · intro m hm
              rcases List.mem_append.mp hm with hm | hm
              · exact hfew m hm
              · rw [List.mem_singleton.mp hm]
                exact hn
          refine ⟨_, rfl, _, _, c, rfl, rfl, by omega, hc, rfl, _, rfl, if2d (fun e => ?_) (fun e => ?_)⟩
          · have e : c = 48 := e48 (by injection e)
            refine ⟨_, rfl, _, _, rfl, ⟨by omega, rfl⟩, _, _, rfl, rfl, _, rfl, if2d (fun e2 => ?_) (fun e2 => ?_)⟩
            · refine bad (fun g => ?_) _ s13
              have h := (goodW_facts g).2.2.2 c hc e
              have e2 : (1 : Int) < (x.length : Int) := e2
              rw [h] at e2
              exact absurd e2 (by decide +kernel)
            · have hx0 : x = Str.ofString "0" := by
                have e2 : ¬ (1 : Int) < (x.length : Int) := e2
                refine str_ext ?_
                have hl : (TL.tl x).length = 1 := by rw [← TL.len_tl]; omega
                have hc' : atI (TL.tl x) 0 = some c := hc
                match hh : TL.tl x, hl with
                | [u], _ =>
                  rw [hh] at hc'
                  have e3 : u = c := Option.some.inj ((atI_nat (xs := [u]) (j := 0) rfl).symm.trans hc')
                  rw [e3, e]
                  decide +kernel
              obtain ⟨n, hn, en⟩ := good_word h1 h3 hfig fun _ => hx0
              refine ⟨_, rfl, .inl ⟨rfl, _, SqL.of eF3⟩, ?_⟩
              refine ⟨_, rfl, _, n, rfl, by rw [en]; exact numS_int hn, by omega, ?_⟩
              exact ⟨F, _, .int n, rfl, rfl, eF3, by rw [List.length_map]; omega, step n hn en⟩
          · obtain ⟨n, hn, en⟩ := good_word h1 h3 hfig fun h => absurd (show V.str ⟨#[c]⟩ = V.str (Str.ofString "0") by rw [c48 (h0' h)]) e
            refine ⟨_, rfl, .inl ⟨rfl, _, SqL.of eF3⟩, ?_⟩
            refine ⟨_, rfl, _, n, rfl, by rw [en]; exact numS_int hn, by omega, ?_⟩
            exact ⟨F, _, .int n, rfl, rfl, eF3, by rw [List.length_map]; omega, step n hn en⟩
        · rw [show (badS x.cps.toList).isEmpty = false by simpa using hb]
          exact iteT (bad (fun g => hb (badS_nil.mpr (goodW_facts g).2.2.1)) _ s13)
    · rintro σ H' ⟨sb, ns, v2, v3, rfl, eF, hns, hfew⟩
      have sH : Same H H' := same_sb s1 hF sb
      rw [List.take_of_length_le (by rw [List.length_map]; exact Nat.le_refl _)] at hns
      refine ⟨_, rfl, F, _, rfl, .inl (SqL.of eF), rfl, _, rfl, if2d (fun h3 => ?_) (fun h3 => ?_)⟩
      · have h3 : ns.length = 3 := by
          rw [List.length_map] at h3
          have h3 : V.int (ns.length : Int) = V.int 3 := h3
          injection h3 with h3
          omega
        obtain ⟨k, rfl, hk⟩ : ∃ k : Ask, ns = askNs k ∧ LineIs y k := by
          match ns, h3 with
          | [a, b, c], _ => exact ⟨(a, b, c), rfl, hns, hfew⟩
        refine ⟨_, rfl, .inl ⟨F, _, rfl, SqL.of eF, fun p hp => ?_⟩⟩
        refine q _ _ (sH.trans (same_new hp)) ?_
        rw [askOf_is hk]
        exact dp_tints_of (ns := askNs k) (.inl (.inl upd_same))
      · refine q _ _ sH ?_
        rw [askOf_not fun ⟨a, ha⟩ => h3 (by
          have h := (line_good ha).1
          rw [hns, List.length_map] at h
          rw [List.length_map, h]
          rfl)]
        exact .non
end
end Ag

namespace Ag
open PySem PySem.Spec PyProof.Rows L2
/-! ### what is due -/
abbrev s_l_due : Stmt := top 28
def dOut : Out → PyData
  | .text i => .tuple [.str (Str.ofString "text"), .int (i : Int)]
  | .ask i => .tuple [.str (Str.ofString "ask"), .int (i : Int)]
  | .read l => .tuple [.str (Str.ofString "read"), dAsks l]
noncomputable def rowsO (x : Str) : List PyData := (linesOf x).map fun y => dRowO (askOf y)
theorem canLay_rowO (o : Option Ask) : (dRowO o).canLay0 = true ∧ (dRowO o).depth ≤ 1 := by
  cases o with
  | none => exact ⟨by simp [dRowO, PyData.canLay0], by simp [dRowO, PyData.depth]⟩
  | some a => exact ⟨by simp [dRowO, dAsk, PyData.canLay0, PyData.canLayAll0], by simp [dRowO, dAsk, PyData.depth, PyData.depthAll]⟩
theorem shaped_rowsO (L : List Str) : PyData.canLayAll0 (L.map fun y => dRowO (askOf y)) = true ∧ PyData.depthAll (L.map fun y => dRowO (askOf y)) ≤ 1
 := by
  induction L with
  | nil => exact ⟨by simp [PyData.canLayAll0], by simp [PyData.depthAll]⟩
  | cons y r ih =>
    obtain ⟨h1, h2⟩ := canLay_rowO (askOf y)
    refine ⟨by simp [PyData.canLayAll0, h1, ih.1], ?_⟩
    simp only [List.map_cons, PyData.depthAll]
    have := ih.2
    omega
theorem shaped_rows (x : Str) : SeqAt.shaped (.list (rowsO x)) = true := by
  obtain ⟨h1, h2⟩ := shaped_rowsO (linesOf x)
  unfold SeqAt.shaped rowsO
  simp only [PyData.canLay0, h1, PyData.depth, Bool.true_and]
  exact decide_eq_true (by omega)
theorem eqv_rowO (o : Option Ask) : PyData.eqv (dRowO o) .none = o.isNone := by
  cases o with
  | none => simp [dRowO, PyData.eqv]
  | some a => simp [dRowO, dAsk, PyData.eqv]
/-- the lines, if none is no ask -/
theorem lines_of : ∀ (L : List Str), (∀ y ∈ L, askOf y ≠ none) → ∃ l, Lines L l ∧ (L.map fun y => dRowO (askOf y)) = l.map dAsk
  | [], _ => ⟨[], ⟨rfl, fun i x a h => by simp at h⟩, rfl⟩
  | y :: r, h => by
    obtain ⟨l, h1, h2⟩ := lines_of r fun z hz => h z (List.mem_cons_of_mem _ hz)
    obtain ⟨a, ha⟩ : ∃ a, askOf y = some a := by
      cases e : askOf y with
      | none => exact absurd e (h y List.mem_cons_self)
      | some a => exact ⟨a, rfl⟩
    refine ⟨a :: l, ⟨by simp [h1.1], fun i x b hx hb => ?_⟩, by simp only [List.map_cons, h2, ha]; rfl⟩
    cases i with
    | zero =>
      cases hx
      cases hb
      exact askOf_some ha
    | succ i => exact h1.2 i x b hx hb
def sp_l_due (K : PySem.W.Frag) : Sp := fun vs H Q _ => ∃ (v : V) (d : Disk) (x : Str), vs = [v, .str x] ∧ Dp K H v (dDisk d) ∧ x.length ≤ 15000000 ∧ WOk x ∧ ∀ o, Due d x o → ∀ (H' : Hp) (u : V), Same H H' → Dp K H' u (dOut o) → Q u H'
theorem sc_l_due : FnScope ["_law_disk_here", "_law_text_here", "_law_rows", "_law_number", "_law_line"] ["_law_disk_here", "_law_text_here"] (defScope s_l_due) := ⟨rfl, rfl, rfl, by decide +kernel, rfl, by decide +kernel, by decide +kernel⟩
theorem due_index {L : List Str} (h : ∃ y ∈ L, askOf y = none) : ∃ (i : Nat) (y : Str), L[i]? = some y ∧ askOf y = none ∧ ∀ (j : Nat) (z : Str), j < i → L[j]? = some z → askOf z ≠ none := by
  induction L with
  | nil => obtain ⟨y, hy, _⟩ := h; cases hy
  | cons z r ih =>
    by_cases hz : askOf z = none
    · exact ⟨0, z, rfl, hz, fun j _ hj => absurd hj (Nat.not_lt_zero _)⟩
    · obtain ⟨y, hy, hn⟩ := h
      rcases List.mem_cons.mp hy with rfl | hy
      · exact absurd hn hz
      · obtain ⟨i, y, h1, h2, h3⟩ := ih ⟨y, hy, hn⟩
        refine ⟨i + 1, y, h1, h2, fun j w hj hw => ?_⟩
        cases j with
        | zero => cases hw; exact hz
        | succ j => exact h3 j w (by omega) hw
theorem askOf_none {y : Str} : askOf y = none ↔ ¬ ∃ a, LineIs y a := by
  constructor
  · rintro h ⟨a, ha⟩
    rw [askOf_is ha] at h
    cases h
  · exact askOf_not
theorem sqt_but {K : PySem.W.Frag} {H H' : Hp} {S a : Addr} {ys xs : List V} (e : H S = some (.lst ys)) (s : SameBut S H H') (h : SqT K H a xs) : SqT K H' a xs := by
  rcases h with (h | ⟨o, h⟩) | h
  · exact .inl (.inl (s _ _ (ne_of h e (by intro z; cases z)) h))
  · exact .inl (.inr ⟨o, s _ _ (ne_of h e (by intro z; cases z)) h⟩)
  · exact .inr h
theorem room65 {k : Nat} {A : Around} (r : Room k A) : A.units + 65 < cLine := by have := r.un; omega
abbrev rSplit1 : V → List V → Hp → VK → Prop := fun x xs H Q => ∃ a b, x = V.str a ∧ xs = [V.str b] ∧ (b.length == 0) = false ∧ a.length + 2 ≤ sizeLine ∧ rNewStrs (Txt.split a b) H Q
theorem rows_any {K : PySem.W.Frag} {a : Addr} {x : Str} {H : Hp} {G : VK} (hx : x.length ≤ 15000000) (wok : WOk x) (h : ∀ (R : Addr) (H1 : Hp) (xs : List V), Same H H1 → H1 R = some (.lst xs) → DpAll K H1 xs (rowsO x) → G (.ref R) H1) :
    tIf (tTest (tOp rNe (tVar 1) (tC (V.str (Str.ofString ""))))) (tLc (iList K (tM1 rSplit1 (tVar 1) (tC (V.str (Str.ofString "\n"))))) (gName 4) tYes (tCall (sp_l_numbers K) [] E0 (tCons (tM1 rSplit1 (tVar 4) (tC (V.str (Str.ofString " ")))) tNil)) (List.map (fun x => x.snd) [(Str.ofString "_law_line", 4)])) (tLst tNil)
      [some (.ref a), some (.str x), none, none, none] H G := by
  obtain ⟨hn1, hn2⟩ := lines_len x
  have hsl := sizeLine_eq
  refine ⟨_, rfl, rfl, _, rfl, ?_⟩
  by_cases hl : x = Str.ofString ""
  · refine ifnd_t (by rw [hl]) ⟨Nat.zero_le _, fun R hR => h R _ [] (same_new hR) upd_same ?_⟩
    have e : rowsO x = [] := by
      unfold rowsO linesOf
      rw [if_pos hl]
      rfl
    rw [e]
    exact .nil
  · have eL : Txt.split x (Str.ofString "\n") = linesOf x := by
      unfold linesOf
      rw [if_neg hl]
      rfl
    refine ifnd_f (fun e => hl (by injection e)) ⟨_, rfl, ⟨_, rfl⟩, _, _, rfl, rfl, by decide +kernel, by omega, ?_⟩
    rw [eL]
    intro L hL
    have s1 := same_new (o := .lst ((linesOf x).map V.str)) hL
    refine ⟨L, rfl, ⟨_, SqL.of upd_same⟩, fun D hD => ?_⟩
    have s2 := same_new (o := .lst []) hD
    have eL2 := s2 _ _ (show upd H L (.lst ((linesOf x).map V.str)) L = some (.lst ((linesOf x).map V.str)) from upd_same)
    have nLD : D ≠ L := fun z => by
      rw [z, upd_same] at hD
      cases hD
    refine lc_list (K := K) (a := L) (xs := (linesOf x).map V.str) (fun j H2 => SameBut D (upd (upd H L (.lst ((linesOf x).map V.str))) D (.lst [])) H2 ∧ ∃ xs, H2 D = some (.lst xs) ∧ xs.length = j ∧ DpAll K (wo H2 D) xs (((linesOf x).take j).map fun y => dRowO (askOf y))) ⟨sb_refl, [], upd_same, rfl, .nil⟩ (fun j H2 _ ⟨sb, _⟩ => SqL.of (sb _ _ nLD.symm eL2)) ?_ ?_
    · rintro j z H2 hj ⟨sb, xs, eD, hxl, hda⟩
      obtain ⟨y, hy, rfl⟩ : ∃ y, (linesOf x)[j]? = some y ∧ z = .str y := by
        rw [List.getElem?_map] at hj
        cases e : (linesOf x)[j]? with
        | none => rw [e] at hj; cases hj
        | some n => rw [e] at hj; exact ⟨n, rfl, (Option.some.inj hj).symm⟩
      have hjl := (List.getElem?_eq_some_iff.mp hy).1
      obtain ⟨hyl, hyw⟩ := hn2 y (List.mem_of_getElem? hy)
      refine ⟨rfl, _, rfl, ⟨_, rfl⟩, _, _, rfl, rfl, by decide +kernel, by omega, ?_⟩
      show rNewStrs (wordsOf y) H2 _
      intro W hW
      have s3 := same_new (o := .lst ((wordsOf y).map V.str)) hW
      refine ⟨W, y, rfl, SqL.of upd_same, by omega, hyw wok, fun H4 v s4 dv => ?_⟩
      have s34 := s3.trans s4
      refine ⟨xs, s34 _ _ eD, by omega, sb_upd (sb_trans sb (sb_of s34)), xs ++ [v], upd_same, by rw [List.length_append, hxl]; rfl, ?_⟩
      rw [take_more hy, List.map_append]
      refine dpa_snoc (dpa_same (sb_wo (sb_upd (sb_of s34))) hda) ?_
      show Dp K (wo (upd H4 D (.lst (xs ++ [v]))) D) v (dRowO (askOf y))
      cases e : askOf y with
      | none =>
        rw [e] at dv
        cases dv
        exact .non
      | some k =>
        rw [e] at dv
        obtain ⟨p, rfl, ht⟩ := dp_tints dv
        have sbw : SameBut D H4 (wo (upd H4 D (.lst (xs ++ [.ref p]))) D) := fun b o n e => by rw [wo_ne n, upd_ne n]; exact e
        exact dp_tints_of (sqt_but (s34 _ _ eD) sbw ht)
    · rintro H2 ⟨sb, xs, eD, hxl, hda⟩
      rw [List.take_of_length_le (by rw [List.length_map]; exact Nat.le_refl _)] at hda
      exact h D H2 xs (same_sb (s1.trans s2) (by
        by_cases z : D = L
        · exact absurd z nLD
        · rw [upd_ne z] at hD
          exact hD) sb) eD (dpa_same wo_sub hda)
section
variable {P : Program} {w : World} {K : PySem.W.Frag} {mg : Str → Option Value} {base : Heap}
theorem ok_l_due {f fN : Addr} {fd fdN : FuncData} (F : Fun K "_law_due" "_law_due" s_l_due f fd)
    (G__law_numbers : FnOk P w K mg base CX0 1 fN fdN ["_law_words"] (sp_l_numbers K)) (C__law_numbers : Cal K mg "_law_numbers" fN fdN ["_law_words"])
    (mb_len : mg "len" = none) (mb_range : mg "range" = none) :
    FnOk P w K mg base CX0 2 f fd ["_law_disk_here", "_law_text_here"] (sp_l_due K) := by
  refine F.ok sc_l_due (fun vs H Q E h => ?_) (fun cdv A outer s H vs Q E hr h => ?_)
  · obtain ⟨v, d, x, rfl, _⟩ := h
    rfl
  · obtain ⟨v, d, x, rfl, hd, hx, wok, q⟩ := h
    obtain ⟨a, rfl, hT⟩ := dp_disk hd
    have nd := sc_l_due.nd
    have hr__law_numbers : Room 1 _ := hr.mono (by decide)
    obtain ⟨hn1, hn2⟩ := lines_len x
    have hsl := sizeLine_eq
    refine ⟨_, (pss_cons (ps_set (i := 2) nd rfl (.inl rfl) (pe_ifExp (pt_cmpR op_ne (pv 1) pe_str (nomark _)) (pe_lc (own := [("_law_line", 4)]) (g := (gName 4)) (tt := tYes) rfl nd (pi_list (pe_split (pv 1) pe_str)) (blkOk_by (own := [("_law_line", 4)]) (N := ["_law_disk_here", "_law_text_here", "_law_rows", "_law_number", "_law_line"]) (sc := (defScope s_l_due)) (by decide +kernel)) (fun _ _ _ _ _ => (pg_name (i := 4) nd rfl (.inl rfl))) (fun _ _ _ _ _ => pts_nil) (fun _ _ _ _ _ => (pe_call G__law_numbers hr__law_numbers rfl C__law_numbers.m C__law_numbers.k C__law_numbers.b .nil pass0 (pa_cons (pe_split (pv 4) pe_str) pa_nil)))) (pe_lst pa_nil)))
      (pss_cons (ps_if (pt_cmpR (op_inD (room65 hr)) pe_non (pv 2) (by rfl)) (pss_one (ps_ret (pe_tup (pa_cons pe_str (pa_cons (pe_bm PySem.F.plainAttrs_list PySem.F.slot_list_index PySem.F.type_list_index (mt_indexD (room65 hr)) (pv 2) (pa_cons pe_non pa_nil)) pa_nil))))) pss_nil)
      (pss_cons (ps_for PassesOwn.never rfl (pi_range1 rfl mb_range (pa_cons (pe_callB call_len_seq (by rfl) mb_len PySem.boot_len (pa_cons (pv 2) pa_nil)) pa_nil)) (pg_name (i := 3) nd rfl (.inl rfl))
        (pss_one (ps_if (PW.pt (pw_or (pt_cmpR op_gt (pv 3) pe_int (nomark _)) (pw_or (pt_cmpR op_ge (pe_ix (r := rIxT K) ix_tup (pe_ix (r := rIxL K) ix_list (pv 2) (pv 3) (fun _ _ => rfl)) pe_int (fun _ _ => rfl)) (pe_ix (r := rIxT K) ix_tup (pv 0) pe_int (fun _ _ => rfl)) (nomark _)) (pw_or1 (pt_cmpR op_ge (pe_ix (r := rIxT K) ix_tup (pe_ix (r := rIxL K) ix_list (pv 2) (pv 3) (fun _ _ => rfl)) pe_int (fun _ _ => rfl)) (pe_ix (r := rIxT K) ix_tup (pv 0) pe_int (fun _ _ => rfl)) (nomark _)))))) (pss_one (ps_ret (pe_tup (pa_cons pe_str (pa_cons (pv 3) pa_nil))))) pss_nil)))
      (pss_one (ps_ret (pe_tup (pa_cons pe_str (pa_cons (pv 2) pa_nil)))))))), ?_⟩
    refine rows_any hx wok fun R H1 xs s1 eR hda => ?_
    have hlen : xs.length = (linesOf x).length := by
      have := dpa_len hda
      unfold rowsO at this
      rw [List.length_map] at this
      exact this
    refine ⟨_, rfl, .none, rowsO x, .non, .lst (SqL.of eR) hda, by decide, shaped_rows x, ?_⟩
    refine ⟨_, rfl, ?_⟩
    by_cases hN : ((rowsO x).any fun z => PyData.eqv z .none) = true
    · rw [hN]
      have hN2 : ∃ y ∈ linesOf x, askOf y = none := by
        rw [List.any_eq_true] at hN
        obtain ⟨z, hz, he⟩ := hN
        obtain ⟨y, hy, rfl⟩ := List.mem_map.mp hz
        rw [eqv_rowO] at he
        exact ⟨y, hy, Option.isNone_iff_eq_none.mp he⟩
      obtain ⟨i, y, h1, h2, h3⟩ := due_index hN2
      have hdue : Due d x (.text i) := ⟨y, h1, askOf_none.mp h2, fun j z hj hz => Classical.byContradiction fun hn => h3 j z hj hz (askOf_none.mpr hn)⟩
      have e1 : (rowsO x)[i]? = some (dRowO (askOf y)) := by
        unfold rowsO
        rw [List.getElem?_map, h1]
        rfl
      refine iteT ⟨_, rfl, .inl ⟨rfl, _, SqL.of eR⟩, R, .non, .none, rowsO x, i, _, rfl, rfl, .lst (SqL.of eR) hda, .non, shaped_rows x, by decide, e1, by rw [eqv_rowO, h2]; rfl, fun m z hm hz => ?_, (by show 2 ≤ sizeLine; decide), fun p hp => ?_⟩
      · unfold rowsO at hz
        rw [List.getElem?_map] at hz
        cases ez : (linesOf x)[m]? with
        | none => rw [ez] at hz; cases hz
        | some u =>
          rw [ez] at hz
          cases hz
          rw [eqv_rowO]
          have := h3 m u hm ez
          cases eu : askOf u with
          | none => exact absurd eu this
          | some _ => rfl
      · exact q _ hdue _ _ (s1.trans (same_new hp)) (.tup (SqT.of upd_same) (.cons (.str _) (.cons (.int _) .nil)))
    · rw [show ((rowsO x).any fun z => PyData.eqv z .none) = false by simpa using hN]
      refine iteF ?_
      obtain ⟨l, hl, el⟩ := lines_of (linesOf x) fun y hy hn => hN (List.any_eq_true.mpr ⟨dRowO (askOf y), List.mem_map.mpr ⟨y, hy, rfl⟩, by rw [eqv_rowO, hn]; rfl⟩)
      have el : rowsO x = l.map dAsk := el
      rw [el] at hda
      have hll := hl.1
      have few : ∀ (i : Nat) (k : Ask), l[i]? = some k → ∀ n ∈ askNs k, Few n := fun i k hk => by
        have hi := (List.getElem?_eq_some_iff.mp hk).1
        exact (hl.2 i _ k (List.getElem?_eq_getElem (by omega)) hk).2
      obtain ⟨b, ys, e, hL, hyl, hat⟩ := dp_asks (v := .ref R) (l := l) (.lst (SqL.of eR) hda)
      cases e
      have hT1 := same_sqt s1 hT
      refine ⟨_, rfl, R, ys, rfl, .inl hL, _, rfl, by omega, by omega, ?_⟩
      refine for_range (lo := 0) (n := ys.length) (fun i σ H' => H' = H1 ∧ (∀ j kj, j < i → l[j]? = some kj → Fits d j kj) ∧ ∃ v3 v4, σ = [some (.ref a), some (.str x), some (.ref R), v3, v4]) ⟨rfl, fun j kj hj => absurd hj (Nat.not_lt_zero _), none, none, rfl⟩ ?_ ?_
      · rintro i σ H' hi ⟨rfl, hbef, v3, v4, rfl⟩
        obtain ⟨k, hk⟩ : ∃ k, l[i]? = some k := ⟨_, List.getElem?_eq_getElem (by omega)⟩
        obtain ⟨p, hp, hpT, _⟩ := hat i k hk
        have fk := few i k hk
        have f1 : Few k.1 := fk _ (by simp [askNs])
        have f2 : Few k.2.1 := fk _ (by simp [askNs])
        have f3 : Few k.2.2 := fk _ (by simp [askNs])
        have bad : ¬ Fits d i k → 2 ≤ sizeLine ∧ ∀ (p : Addr), H' p = none → Q (.ref p) (upd H' p (.tup [.str (Str.ofString "ask"), .int (0 + (i : Int))])) := fun hn => ⟨by decide, fun p hp => by
          rw [Int.zero_add]
          exact q _ (show Due d x (.ask i) from ⟨l, k, hl, hk, hn, hbef⟩) _ _ (s1.trans (same_new hp)) (.tup (SqT.of upd_same) (.cons (.str _) (.cons (.int _) .nil)))⟩
        refine ⟨_, rfl, _, _, rfl, rfl, _, rfl, if2d (fun h1 => ?_) (fun h1 => ?_)⟩
        · exact iteT ⟨_, rfl, bad (fun z => by have := z.1; have h1 : (39 : Int) < 0 + (i : Int) := h1; omega)⟩
        refine ⟨_, rfl, _, rfl, R, ys, (i : Int), .ref p, rfl, by rw [Int.zero_add], hL, atI_nat hp, ?_⟩
        refine ⟨p, _, 1, _, rfl, rfl, hpT, atI_nat (j := 1) rfl, ?_⟩
        refine ⟨_, rfl, a, _, 0, _, rfl, rfl, hT1, atI_nat (j := 0) rfl, _, _, rfl, rfl, _, rfl, if2d (fun h2 => ?_) (fun h2 => ?_)⟩
        · exact iteT ⟨_, rfl, bad (fun z => by have := z.2.t2; have h2 : d.tr ≤ k.2.1 := h2; omega)⟩
        refine ⟨_, rfl, _, rfl, R, ys, (i : Int), .ref p, rfl, by rw [Int.zero_add], hL, atI_nat hp, ?_⟩
        refine ⟨p, _, 2, _, rfl, rfl, hpT, atI_nat (j := 2) rfl, ?_⟩
        refine ⟨_, rfl, a, _, 1, _, rfl, rfl, hT1, atI_nat (j := 1) rfl, _, _, rfl, rfl, _, rfl, if2d (fun h3 => ?_) (fun h3 => ?_)⟩
        · exact ⟨_, rfl, bad (fun z => by have := z.2.s2; have h3 : d.sc ≤ k.2.2 := h3; omega)⟩
        refine ⟨rfl, fun j kj hj hkj => ?_, _, _, rfl⟩
        rcases Nat.lt_succ_iff_lt_or_eq.mp hj with h | rfl
        · exact hbef j kj h hkj
        · rw [hk] at hkj
          cases hkj
          have h1 : ¬ (39 : Int) < 0 + (j : Int) := h1
          have h2 : ¬ d.tr ≤ k.2.1 := h2
          have h3 : ¬ d.sc ≤ k.2.2 := h3
          exact ⟨by omega, f1.lo, f1.hi, f2.lo, by omega, f3.lo, by omega⟩
      · rintro σ H' ⟨rfl, hall, v3, v4, rfl⟩
        refine ⟨_, rfl, (by show 2 ≤ sizeLine; decide), fun p hp => ?_⟩
        have hdue : Due d x (.read l) := ⟨hl, fun i k hk => hall i k (by have := (List.getElem?_eq_some_iff.mp hk).1; omega) hk⟩
        refine q _ hdue _ _ (s1.trans (same_new hp)) (.tup (SqT.of upd_same) (.cons (.str _) (.cons (dp_same (same_new hp) (.lst (SqL.of eR) hda)) .nil)))
end
end Ag

namespace Ag
open PySem PySem.Spec PyProof.Rows L2
/-! ### how reading ends -/
abbrev s_l_reading : Stmt := top 29
/-- what the law asks of an own error -/
structure ErrL (K : PySem.W.Frag) (C CA CT CB CD CO CR CM : Addr) (isT : Bool) : Prop where
  x : ExcX K C
  arm : PySem.W.exmOne K (.ref C) (.ref CA) = some true
  tx : PySem.W.kitOne K (.ref C) (.ref CT) = some isT
  bx : PySem.W.kitOne K (.ref C) (.ref CB) = some (!isT)
  ox : PySem.W.kitAny K (.ref C) [.ref CD, .ref CO, .ref CR, .ref CM] = some false
  ve : PySem.W.kitOne K (.ref C) (.type "ValueError") = some true
  fld : XfC K C
  no : PySem.W.findIn K (.ref C) (if isT then "row" else "number") = some none
def sp_l_reading (K : PySem.W.Frag) : Sp := fun vs H Q _ => ∃ (v : V) (d : Disk) (x : Str), vs = [v, .str x] ∧ Dp K H v (dDisk d) ∧ GoodDisk d ∧ x.length ≤ 15000000 ∧ WOk x ∧ ∀ o, Due d x o → ∀ (H' : Hp) (u : V), Same H H' → Dp K H' u (dOut o) → Q u H'
theorem sc_l_reading : FnScope ["_law_disk_here", "_law_text_here", "e", "_law_kinds"] ["_law_disk_here", "_law_text_here"] (defScope s_l_reading) := ⟨rfl, rfl, rfl, by decide +kernel, rfl, by decide +kernel, by decide +kernel⟩
section
variable {P : Program} {w : World} {K : PySem.W.Frag} {mg : Str → Option Value} {base : Heap}
theorem ok_l_reading {f fR CA CT CB CD CO CR CM : Addr} {fd fdR : FuncData} (F : Fun K "_law_reading" "_law_reading" s_l_reading f fd)
    (G_read : FnOk P w K mg base (L2.CX P w) 5 fR fdR ["disk", "text"] (sp_readX CB CT K)) (C_read : Cal K mg "read" fR fdR ["disk", "text"])
    (LT : ErrL K CT CA CT CB CD CO CR CM true) (LB : ErrL K CB CA CT CB CD CO CR CM false)
    (mA : mg "ArmError" = some (.ref CA)) (mT : mg "BadText" = some (.ref CT)) (mB : mg "BadAsk" = some (.ref CB)) (mD : mg "BadDisk" = some (.ref CD)) (mO : mg "BadOrder" = some (.ref CO)) (mR : mg "BadRule" = some (.ref CR)) (mM : mg "TooMany" = some (.ref CM))
    (mb_isinstance : mg "isinstance" = none) (mb_ValueError : mg "ValueError" = none) :
    FnOk P w K mg base CX0 7 f fd ["_law_disk_here", "_law_text_here"] (sp_l_reading K) := by
  refine F.ok sc_l_reading (fun vs H Q E h => ?_) (fun cdv A outer s H vs Q E hr h => ?_)
  · obtain ⟨v, d, x, rfl, _⟩ := h
    rfl
  · obtain ⟨v, d, x, rfl, hd, gd, hx, wok, q⟩ := h
    have nd := sc_l_reading.nd
    have hr_read : Room 5 _ := hr.mono (by decide)
    refine ⟨_, (pss_one (ps_try_as (i := 2) (Wout := fun _ _ _ _ => False) rfl rfl nd rfl rfl ⟨rfl, by decide, Or.inl mA⟩ takes0
      (fun W pn xe tk _ => (pss_one (ps_ret (pe_tup (pa_cons pe_str (pa_cons (pe_callS G_read hr_read (by rfl) C_read.m C_read.k C_read.b (fun σ => passAt tk σ) (pa_cons (pv 0) (pa_cons (pv 1) pa_nil))) pa_nil))))))
      (fun a oe cls dd pn hz hf => (pss_cons (ps_set (i := 3) nd rfl (.inl rfl) (pe_lst (pa_cons (pe_callB (call_isX hz hf) (by rfl) mb_isinstance (by decide +kernel) (pa_cons (pv 2) (pa_cons (pe_glob (v := .ref CT) rfl mT rfl) pa_nil))) (pa_cons (pe_callB (call_isX hz hf) (by rfl) mb_isinstance (by decide +kernel) (pa_cons (pv 2) (pa_cons (pe_glob (v := .ref CB) rfl mB rfl) pa_nil))) (pa_cons (pe_callB (call_isXT hz hf) (by rfl) mb_isinstance (by decide +kernel) (pa_cons (pv 2) (pa_cons (pe_tup (pa_cons (pe_glob (v := .ref CD) rfl mD rfl) (pa_cons (pe_glob (v := .ref CO) rfl mO rfl) (pa_cons (pe_glob (v := .ref CR) rfl mR rfl) (pa_cons (pe_glob (v := .ref CM) rfl mM rfl) pa_nil))))) pa_nil))) pa_nil)))))
      (pss_cons (ps_if (PW.pt (pw_or (pt_not (pt_val (pe_callB (call_isX hz hf) (by rfl) mb_isinstance (by decide +kernel) (pa_cons (pv 2) (pa_cons (pe_bltn (v := .ty "ValueError") rfl mb_ValueError (by decide +kernel) rfl) pa_nil))))) (pw_or (pt_cmpR op_ne (pe_cnt (K := K) (pv 3) (pa_cons pe_bl pa_nil)) pe_int (nomark _)) (pw_or1 (pt_val (pe_ix (r := rIxL K) ix_list (pv 3) pe_int (fun _ _ => rfl))))))) (pss_one (ps_ret (pe_tup (pa_cons pe_str (pa_cons pe_non pa_nil))))) pss_nil)
      (pss_one (ps_ret (pe_ifExp (pt_val (pe_ix (r := rIxL K) ix_list (pv 3) pe_int (fun _ _ => rfl))) (pe_tup (pa_cons pe_str (pa_cons (pe_xf LT.fld LT.no hz hf (pv 2)) pa_nil))) (pe_tup (pa_cons pe_str (pa_cons (pe_xf LB.fld LB.no hz hf (pv 2)) pa_nil))))))))))), ?_⟩
    refine ⟨_, rfl, _, rfl, v, d, x, rfl, hd, gd, hx, wok, fun l hdue H1 p xs s1 hp ep hxs => ?_, fun i hdue H1 e s1 he => ?_, fun i hdue H1 e s1 he => ?_⟩
    · refine ⟨(by show 2 ≤ sizeLine; decide), fun t ht => ?_⟩
      have s2 := same_new (o := HO.tup [.str (Str.ofString "read"), .ref p]) ht
      exact q _ hdue _ _ (s1.trans s2) (.tup (SqT.of upd_same) (.cons (.str _) (.cons (.lst (SqL.of (s2 _ _ ep)) (dpa_same s2 hxs)) .nil)))
    · have s2 := same_new (o := HO.xd [(Str.ofString "row", .int (i : Int))]) he
      have s12 := s1.trans s2
      have eE : upd H1 e (.xd [(Str.ofString "row", .int (i : Int))]) e = some (.xd [(Str.ofString "row", .int (i : Int))]) := upd_same
      revert s12 eE
      generalize upd H1 e (.xd [(Str.ofString "row", .int (i : Int))]) = H2
      intro s12 eE
      refine ⟨true, LT.arm, fun _ a ha => ?_, fun h => by cases h⟩
      refine ⟨_, rfl, CT, .ref CT, .ref CT, true, rfl, rfl, LT.x, .inr ⟨e, _, rfl, eE⟩, .own _, LT.tx, ?_⟩
      refine ⟨_, rfl, CT, .ref CB, .ref CB, false, rfl, rfl, LT.x, .inr ⟨e, _, rfl, eE⟩, .own _, LT.bx, ?_⟩
      refine ⟨_, rfl, (by show 4 ≤ sizeLine; decide), fun tp htp => ?_⟩
      have s3 := same_new (o := HO.tup [.ref CD, .ref CO, .ref CR, .ref CM]) htp
      refine ⟨CT, tp, [.ref CD, .ref CO, .ref CR, .ref CM], [.ref CD, .ref CO, .ref CR, .ref CM], false, rfl, rfl, LT.x, .inr ⟨e, _, rfl, s3 _ _ eE⟩, upd_same, .cons (.own _) (.cons (.own _) (.cons (.own _) (.cons (.own _) .nil))), LT.ox, ?_⟩
      refine ⟨(by show 3 ≤ sizeLine; decide), fun L hL => ?_⟩
      have s4 := same_new (o := HO.lst [.bl true, .bl false, .bl false]) hL
      have s14 := s12.trans (s3.trans s4)
      have eE4 := s4 _ _ (s3 _ _ eE)
      have eL := upd_same (H := upd H2 tp (.tup [.ref CD, .ref CO, .ref CR, .ref CM])) (a := L) (o := HO.lst [.bl true, .bl false, .bl false])
      revert s14 eE4 eL
      generalize upd (upd H2 tp (.tup [.ref CD, .ref CO, .ref CR, .ref CM])) L (.lst [.bl true, .bl false, .bl false]) = H4
      intro s14 eE4 eL
      refine ⟨_, rfl, CT, .ty "ValueError", .type "ValueError", true, rfl, rfl, LT.x, .inr ⟨e, _, rfl, eE4⟩, .ty _, LT.ve, true, rfl, iteF ?_⟩
      refine ⟨_, rfl, .inl ⟨rfl, _, SqL.of eL⟩, L, [.bl true, .bl false, .bl false], .bl true, rfl, rfl, SqL.of eL, rfl, rfl, rfl, _, rfl, ifnd_t rfl ?_⟩
      refine ⟨_, rfl, L, [.bl true, .bl false, .bl false], 2, .bl false, rfl, rfl, SqL.of eL, rfl, false, rfl, iteF ?_⟩
      refine ⟨_, rfl, L, [.bl true, .bl false, .bl false], 0, .bl true, rfl, rfl, SqL.of eL, rfl, true, rfl, iteT ?_⟩
      refine ⟨_, rfl, rfl, rfl, e, _, .int (i : Int), rfl, eE4, rfl, (by show 2 ≤ sizeLine; decide), fun t ht => ?_⟩
      exact q _ hdue _ _ (s14.trans (same_new ht)) (.tup (SqT.of upd_same) (.cons (.str _) (.cons (.int _) .nil)))
    · have s2 := same_new (o := HO.xd [(Str.ofString "number", .int (i : Int))]) he
      have s12 := s1.trans s2
      have eE : upd H1 e (.xd [(Str.ofString "number", .int (i : Int))]) e = some (.xd [(Str.ofString "number", .int (i : Int))]) := upd_same
      revert s12 eE
      generalize upd H1 e (.xd [(Str.ofString "number", .int (i : Int))]) = H2
      intro s12 eE
      refine ⟨true, LB.arm, fun _ a ha => ?_, fun h => by cases h⟩
      refine ⟨_, rfl, CB, .ref CT, .ref CT, false, rfl, rfl, LB.x, .inr ⟨e, _, rfl, eE⟩, .own _, LB.tx, ?_⟩
      refine ⟨_, rfl, CB, .ref CB, .ref CB, true, rfl, rfl, LB.x, .inr ⟨e, _, rfl, eE⟩, .own _, LB.bx, ?_⟩
      refine ⟨_, rfl, (by show 4 ≤ sizeLine; decide), fun tp htp => ?_⟩
      have s3 := same_new (o := HO.tup [.ref CD, .ref CO, .ref CR, .ref CM]) htp
      refine ⟨CB, tp, [.ref CD, .ref CO, .ref CR, .ref CM], [.ref CD, .ref CO, .ref CR, .ref CM], false, rfl, rfl, LB.x, .inr ⟨e, _, rfl, s3 _ _ eE⟩, upd_same, .cons (.own _) (.cons (.own _) (.cons (.own _) (.cons (.own _) .nil))), LB.ox, ?_⟩
      refine ⟨(by show 3 ≤ sizeLine; decide), fun L hL => ?_⟩
      have s4 := same_new (o := HO.lst [.bl false, .bl true, .bl false]) hL
      have s14 := s12.trans (s3.trans s4)
      have eE4 := s4 _ _ (s3 _ _ eE)
      have eL := upd_same (H := upd H2 tp (.tup [.ref CD, .ref CO, .ref CR, .ref CM])) (a := L) (o := HO.lst [.bl false, .bl true, .bl false])
      revert s14 eE4 eL
      generalize upd (upd H2 tp (.tup [.ref CD, .ref CO, .ref CR, .ref CM])) L (.lst [.bl false, .bl true, .bl false]) = H4
      intro s14 eE4 eL
      refine ⟨_, rfl, CB, .ty "ValueError", .type "ValueError", true, rfl, rfl, LB.x, .inr ⟨e, _, rfl, eE4⟩, .ty _, LB.ve, true, rfl, iteF ?_⟩
      refine ⟨_, rfl, .inl ⟨rfl, _, SqL.of eL⟩, L, [.bl false, .bl true, .bl false], .bl true, rfl, rfl, SqL.of eL, rfl, rfl, rfl, _, rfl, ifnd_t rfl ?_⟩
      refine ⟨_, rfl, L, [.bl false, .bl true, .bl false], 2, .bl false, rfl, rfl, SqL.of eL, rfl, false, rfl, iteF ?_⟩
      refine ⟨_, rfl, L, [.bl false, .bl true, .bl false], 0, .bl false, rfl, rfl, SqL.of eL, rfl, false, rfl, iteF ?_⟩
      refine ⟨_, rfl, rfl, rfl, e, _, .int (i : Int), rfl, eE4, rfl, (by show 2 ≤ sizeLine; decide), fun t ht => ?_⟩
      exact q _ hdue _ _ (s14.trans (same_new ht)) (.tup (SqT.of upd_same) (.cons (.str _) (.cons (.int _) .nil)))
end
end Ag

namespace Ag
open PySem PySem.Spec PyProof.Rows L2
/-! ### the law's draws: any number in range -/
abbrev s_l_taken : Stmt := top 22
def sp_l_taken (K : PySem.W.Frag) : Sp := fun vs H Q _ => ∃ (r : Addr) (many : Int), vs = [.ref r, .int many] ∧ RowAt K H r ∧ 0 < many ∧ ∀ (H' : Hp) (v : Int), 0 ≤ v → v < many → RowAt K H' r → SameBut r H H' → Q (.int v) H'
theorem sc_l_taken : FnScope ["_law_row", "_law_many", "_law_cell"] ["_law_row", "_law_many"] (defScope s_l_taken) := ⟨rfl, rfl, rfl, by decide +kernel, rfl, by decide +kernel, by decide +kernel⟩
section
variable {P : Program} {w : World} {K : PySem.W.Frag} {mg : Str → Option Value} {base : Heap}
theorem ok_l_taken {f : Addr} {fd : FuncData} (F : Fun K "_law_taken" "_law_taken" s_l_taken f fd) (ml : mg "len" = none) : FnOk P w K mg base CX0 1 f fd ["_law_row", "_law_many"] (sp_l_taken K) := by
  refine F.ok sc_l_taken (fun vs H Q E h => ?_) (fun cdv A outer s H vs Q E hr h => ?_)
  · obtain ⟨r, many, rfl, _⟩ := h
    rfl
  · obtain ⟨r, many, rfl, ⟨a, ns, pos, mix, p0, hR, hS⟩, hm, q⟩ := h
    have nd := sc_l_taken.nd
    refine ⟨_, pss_cons (ps_asg (pe_op op_add (pe_ix ix_list (pv 0) pe_int (fun _ _ => rfl)) pe_int) (pg_sub (pv 0) pe_int set_list))
      (pss_cons (ps_if (pt_cmpR op_gt (pe_ix ix_list (pv 0) pe_int (fun _ _ => rfl)) (pe_callB call_len_seq (by rfl) ml PySem.boot_len (pa_cons (pe_ix ix_list (pv 0) pe_int (fun _ _ => rfl)) pa_nil)) (nomark _))
        (pss_cons (ps_asg (pe_op op_mod (pe_op op_add (pe_op op_mul (pe_ix ix_list (pv 0) pe_int (fun _ _ => rfl)) pe_int) pe_int) pe_int) (pg_sub (pv 0) pe_int set_list))
          (pss_one (ps_ret (pe_op op_mod (pe_op op_fdiv (pe_ix ix_list (pv 0) pe_int (fun _ _ => rfl)) pe_int) (pv 1))))) pss_nil)
      (pss_cons (ps_set (i := 2) nd rfl (.inl rfl) (pe_ix ix_list (pe_ix ix_list (pv 0) pe_int (fun _ _ => rfl)) (pe_op op_sub (pe_ix ix_list (pv 0) pe_int (fun _ _ => rfl)) pe_int) (fun _ _ => rfl)))
      (pss_cons (ps_asg (pe_op op_mod (pe_op op_add (pe_op op_add (pe_op op_mul (pe_ix ix_list (pv 0) pe_int (fun _ _ => rfl)) pe_int) (pv 2)) pe_int) pe_int) (pg_sub (pv 0) pe_int set_list))
      (pss_one (ps_ret (pe_op op_mod (pv 2) (pv 1))))))), ?_⟩
    refine ⟨_, rfl, r, _, 1, _, rfl, rfl, SqL.of hR, atI_nat (j := 1) rfl, _, _, rfl, rfl, _, rfl, r, _, _, 1, rfl, rfl, hR, rfl, ?_⟩
    have h1 : upd H r (.lst ([V.ref a, .int pos, .int mix].set 1 (.int (pos + 1)))) r = some (.lst [V.ref a, .int (pos + 1), .int mix]) := upd_same
    have hS1 : ScrAt K (upd H r (.lst ([V.ref a, .int pos, .int mix].set 1 (.int (pos + 1))))) a ns := hS.put hR
    have b1 : SameBut r H (upd H r (.lst ([V.ref a, .int pos, .int mix].set 1 (.int (pos + 1))))) := sb_upd sb_refl
    revert h1 hS1 b1
    generalize upd H r (.lst ([V.ref a, .int pos, .int mix].set 1 (.int (pos + 1)))) = H1
    intro h1 hS1 b1
    refine ⟨_, rfl, r, _, 1, _, rfl, rfl, SqL.of h1, atI_nat (j := 1) rfl, _, rfl, r, _, 0, _, rfl, rfl, SqL.of h1, atI_nat (j := 0) rfl, a, _, rfl, .inl hS1.sql, _, _, rfl, rfl, _, rfl, if2d (fun _ => ?_) (fun hle => ?_)⟩
    · refine ⟨_, rfl, r, _, 2, _, rfl, rfl, SqL.of h1, atI_nat (j := 2) rfl, _, _, rfl, rfl, .inr ⟨by decide, by decide⟩, _, _, rfl, rfl, _, _, rfl, rfl, (by show (0 : Int) < 2147483647; decide), _, rfl, r, _, _, 2, rfl, rfl, h1, rfl, ?_⟩
      refine ⟨_, rfl, r, [V.ref a, .int (pos + 1), .int ((mix * 48271 + 11) % 2147483647)], 2, _, rfl, rfl, .inl (.inl upd_same), atI_nat (j := 2) rfl, _, _, rfl, rfl, ⟨by decide, by decide⟩, _, rfl, _, _, rfl, rfl, hm, ?_⟩
      refine q _ _ (Int.emod_nonneg _ (by omega)) (Int.emod_lt_of_pos _ hm) ⟨a, ns, pos + 1, _, by omega, upd_same, hS1.put h1⟩ (sb_upd b1)
    · rw [List.length_map] at hle
      have hlt : pos.toNat < ns.length := by omega
      obtain ⟨z, hz⟩ : ∃ z, ns[pos.toNat]? = some z := ⟨_, List.getElem?_eq_getElem hlt⟩
      refine ⟨_, rfl, r, _, 0, _, rfl, rfl, SqL.of h1, atI_nat (j := 0) rfl, _, rfl, r, _, 1, _, rfl, rfl, SqL.of h1, atI_nat (j := 1) rfl, _, _, rfl, rfl, a, _, _, .int z, rfl, rfl, hS1.sql, at_of (j := pos.toNat) (by omega) (by rw [List.getElem?_map, hz]; rfl), ?_⟩
      refine ⟨_, rfl, r, _, 2, _, rfl, rfl, SqL.of h1, atI_nat (j := 2) rfl, _, _, rfl, rfl, .inr ⟨by decide, by decide⟩, _, rfl, _, _, rfl, rfl, _, _, rfl, rfl, _, _, rfl, rfl, (by show (0 : Int) < 2147483647; decide), _, rfl, r, _, _, 2, rfl, rfl, h1, rfl, ?_⟩
      refine ⟨_, rfl, _, rfl, _, _, rfl, rfl, hm, ?_⟩
      refine q _ _ (Int.emod_nonneg _ (by omega)) (Int.emod_lt_of_pos _ hm) ⟨a, ns, pos + 1, _, by omega, upd_same, hS1.put h1⟩ (sb_upd b1)
end
/-! ### the law's disks: any good one -/
abbrev s_l_disk : Stmt := top 24
def sp_l_disk (K : PySem.W.Frag) : Sp := fun vs H Q _ => ∃ (r : Addr), vs = [.ref r] ∧ RowAt K H r ∧ ∀ (H' : Hp) (p : Addr) (d : Disk), GoodDisk d → RowAt K H' r → SameBut r H H' → p ≠ r → H' p = some (.tup ([d.tr, d.sc, d.pa, d.he].map V.int)) → Q (.ref p) H'
theorem sc_l_disk : FnScope ["_law_row", "_law_tracks", "_law_sectors"] ["_law_row"] (defScope s_l_disk) := ⟨rfl, rfl, rfl, by decide +kernel, rfl, by decide +kernel, by decide +kernel⟩
theorem row_keep {K : PySem.W.Frag} {H H' : Hp} {r p : Addr} {o : HO} (h : RowAt K H r) (e : H p = some o) (n : p ≠ r) (s : SameBut r H H') : H' p = some o := s _ _ n e
section
variable {P : Program} {w : World} {K : PySem.W.Frag} {mg : Str → Option Value} {base : Heap}
theorem ok_l_disk {f fT : Addr} {fd fdT : FuncData} (F : Fun K "_law_disk" "_law_disk" s_l_disk f fd) (GT : FnOk P w K mg base CX0 1 fT fdT ["_law_row", "_law_many"] (sp_l_taken K)) (gT : mg "_law_taken" = some (.ref fT)) (kT : PySem.W.keepIn K (.ref fT) = true) (bT : Binds K fdT ["_law_row", "_law_many"] []) :
    FnOk P w K mg base CX0 2 f fd ["_law_row"] (sp_l_disk K) := by
  refine F.ok sc_l_disk (fun vs H Q E h => ?_) (fun cdv A outer s H vs Q E hr h => ?_)
  · obtain ⟨r, rfl, _⟩ := h
    rfl
  · obtain ⟨r, rfl, hR, q⟩ := h
    have nd := sc_l_disk.nd
    have hr1 : Room 1 _ := hr
    refine ⟨_, pss_cons (ps_set (i := 1) nd rfl (.inl rfl) (pe_op op_add pe_int (pe_call GT hr1 rfl gT kT bT .nil pass0 (pa_cons (pv 0) (pa_cons (pe_ix ix_list (pe_lst (pa_cons pe_int (pa_cons pe_int pa_nil))) (pe_call GT hr1 rfl gT kT bT .nil pass0 (pa_cons (pv 0) (pa_cons pe_int pa_nil))) (fun _ _ => rfl)) pa_nil)))))
      (pss_cons (ps_set (i := 2) nd rfl (.inl rfl) (pe_op op_add pe_int (pe_call GT hr1 rfl gT kT bT .nil pass0 (pa_cons (pv 0) (pa_cons (pe_ix ix_list (pe_lst (pa_cons pe_int (pa_cons pe_int pa_nil))) (pe_call GT hr1 rfl gT kT bT .nil pass0 (pa_cons (pv 0) (pa_cons pe_int pa_nil))) (fun _ _ => rfl)) pa_nil)))))
      (pss_one (ps_ret (pe_tup (pa_cons (pv 1) (pa_cons (pv 2) (pa_cons (pe_op op_add pe_int (pe_call GT hr1 rfl gT kT bT .nil pass0 (pa_cons (pv 0) (pa_cons pe_int pa_nil)))) (pa_cons (pe_call GT hr1 rfl gT kT bT .nil pass0 (pa_cons (pv 0) (pa_cons (pv 1) pa_nil))) pa_nil)))))))), ?_⟩
    refine ⟨_, rfl, (by show 2 ≤ sizeLine; decide), fun L hL => ?_⟩
    have nL := hR.ne hL
    refine ⟨_, rfl, r, 2, rfl, hR.but (same_new hL), by decide, fun H1 v v0 v1 hR1 s1 => ?_⟩
    have eL : H1 L = some (.lst [.int 8, .int 64]) := s1 _ _ nL upd_same
    have sb1 : SameBut r H H1 := sb_trans (sb_of (same_new hL)) s1
    obtain ⟨k, hk, k8⟩ : ∃ k : Int, atI [V.int 8, .int 64] v = some (.int k) ∧ (1 ≤ k ∧ k ≤ 64) := by
      rcases (by omega : v = 0 ∨ v = 1) with rfl | rfl
      · exact ⟨8, rfl, by decide⟩
      · exact ⟨64, rfl, by decide⟩
    refine ⟨L, _, v, _, rfl, rfl, SqL.of eL, hk, r, k, rfl, hR1, by omega, fun H2 v2 v20 v21 hR2 s2 => ?_⟩
    have sb2 := sb_trans sb1 s2
    refine ⟨_, _, rfl, rfl, ?_⟩
    refine ⟨_, rfl, (by show 2 ≤ sizeLine; decide), fun L2 hL2 => ?_⟩
    have nL2 := hR2.ne hL2
    refine ⟨_, rfl, r, 2, rfl, hR2.but (same_new hL2), by decide, fun H3 v3 v30 v31 hR3 s3 => ?_⟩
    have eL2 : H3 L2 = some (.lst [.int 4, .int 16]) := s3 _ _ nL2 upd_same
    have sb3 : SameBut r H H3 := sb_trans sb2 (sb_trans (sb_of (same_new hL2)) s3)
    obtain ⟨k2, hk2, k28⟩ : ∃ k : Int, atI [V.int 4, .int 16] v3 = some (.int k) ∧ (1 ≤ k ∧ k ≤ 16) := by
      rcases (by omega : v3 = 0 ∨ v3 = 1) with rfl | rfl
      · exact ⟨4, rfl, by decide⟩
      · exact ⟨16, rfl, by decide⟩
    refine ⟨L2, _, v3, _, rfl, rfl, SqL.of eL2, hk2, r, k2, rfl, hR3, by omega, fun H4 v4 v40 v41 hR4 s4 => ?_⟩
    have sb4 := sb_trans sb3 s4
    refine ⟨_, _, rfl, rfl, ?_⟩
    refine ⟨_, rfl, _, rfl, _, rfl, r, 4, rfl, hR4, by decide, fun H5 v5 v50 v51 hR5 s5 => ?_⟩
    refine ⟨_, _, rfl, rfl, _, rfl, _, rfl, r, 1 + v2, rfl, hR5, by omega, fun H6 v6 v60 v61 hR6 s6 => ?_⟩
    refine ⟨(by show 4 ≤ sizeLine; decide), fun p hp => ?_⟩
    have sb6 := sb_trans sb4 (sb_trans s5 s6)
    exact q _ p ⟨1 + v2, 1 + v4, 1 + v5, v6⟩ ⟨by show 1 ≤ 1 + v2; omega, by show 1 + v2 ≤ 64; omega, by show 1 ≤ 1 + v4; omega, by show 1 + v4 ≤ 16; omega, by show 1 ≤ 1 + v5; omega, by show 1 + v5 ≤ 4; omega, v60, v61⟩
      (hR6.but (same_new hp)) (sb_new sb6 hp) (hR6.ne hp) upd_same
end
/-! ### the law's asks: any good ones, no more than it says -/
abbrev s_l_asks : Stmt := top 25
def sp_l_asks (K : PySem.W.Frag) : Sp := fun vs H Q _ => ∃ (r : Addr) (v : V) (d : Disk) (most : Int), vs = [.ref r, v, .int most] ∧ RowAt K H r ∧ Dp K (wo H r) v (dDisk d) ∧ GoodDisk d ∧ 0 ≤ most ∧ most ≤ 40 ∧
  ∀ (H' : Hp) (p : Addr) (l : List Ask) (xs : List V), GoodAsks d l → (l.length : Int) ≤ most → RowAt K H' r → SameBut r H H' → p ≠ r → H p = none → H' p = some (.lst xs) → DpAll K (wo (wo H' r) p) xs (l.map dAsk) → Q (.ref p) H'
theorem sc_l_asks : FnScope ["_law_row", "_law_disk_here", "_law_most", "_law_often", "_law_few", "_law_found", "_law_k"] ["_law_row", "_law_disk_here", "_law_most"] (defScope s_l_asks) := ⟨rfl, rfl, rfl, by decide +kernel, rfl, by decide +kernel, by decide +kernel⟩
section
variable {P : Program} {w : World} {K : PySem.W.Frag} {mg : Str → Option Value} {base : Heap}
theorem ok_l_asks {f fT : Addr} {fd fdT : FuncData} (F : Fun K "_law_asks" "_law_asks" s_l_asks f fd) (GT : FnOk P w K mg base CX0 1 fT fdT ["_law_row", "_law_many"] (sp_l_taken K)) (gT : mg "_law_taken" = some (.ref fT)) (kT : PySem.W.keepIn K (.ref fT) = true) (bT : Binds K fdT ["_law_row", "_law_many"] [])
    (mm : mg "min" = none) (mr : mg "range" = none) : FnOk P w K mg base CX0 2 f fd ["_law_row", "_law_disk_here", "_law_most"] (sp_l_asks K) := by
  refine F.ok sc_l_asks (fun vs H Q E h => ?_) (fun cdv A outer s H vs Q E hr h => ?_)
  · obtain ⟨r, v, d, most, rfl, _⟩ := h
    rfl
  · obtain ⟨r, v, d, most, rfl, hR, hd, g, m0, m40, q⟩ := h
    obtain ⟨a, rfl, hT⟩ := dp_disk hd
    have nd := sc_l_asks.nd
    have hr1 : Room 1 _ := hr
    have hTB : ∀ {H' : Hp}, SameBut r H H' → SqT K H' a [.int d.tr, .int d.sc, .int d.pa, .int d.he] := fun s => same_sqt wo_sub (same_sqt (sb_wo s) hT)
    refine ⟨_, pss_cons (ps_set (i := 3) nd rfl (.inl rfl) (pe_ix ix_list (pe_lst (pa_cons pe_int (pa_cons pe_int (pa_cons pe_int (pa_cons pe_int pa_nil))))) (pe_call GT hr1 rfl gT kT bT .nil pass0 (pa_cons (pv 0) (pa_cons pe_int pa_nil))) (fun _ _ => rfl)))
      (pss_cons (ps_set (i := 4) nd rfl (.inl rfl) (pe_ix ix_list (pe_lst (pa_cons (pe_ix ix_tup (pv 1) pe_int (fun _ _ => rfl)) (pa_cons (pe_callB (call_min2 rfl) (by rfl) mm (by decide +kernel) (pa_cons (pe_ix ix_tup (pv 1) pe_int (fun _ _ => rfl)) (pa_cons pe_int pa_nil))) pa_nil))) (pe_call GT hr1 rfl gT kT bT .nil pass0 (pa_cons (pv 0) (pa_cons pe_int pa_nil))) (fun _ _ => rfl)))
      (pss_cons (ps_set (i := 5) nd rfl (.inl rfl) (pe_lst pa_nil))
      (pss_cons (ps_for PassesOwn.never rfl (pi_range1 rfl mr (pa_cons (pe_call GT hr1 rfl gT kT bT .nil pass0 (pa_cons (pv 0) (pa_cons (pe_op op_add (pv 2) pe_int) pa_nil))) pa_nil)) (pg_name (i := 6) nd rfl (.inl rfl))
        (pss_one (ps_expr (pe_bm PySem.F.plainAttrs_list PySem.F.slot_list_append PySem.F.type_list_append mt_append (pv 5) (pa_cons (pe_tup (pa_cons (pe_call GT hr1 rfl gT kT bT .nil pass0 (pa_cons (pv 0) (pa_cons (pv 3) pa_nil))) (pa_cons (pe_call GT hr1 rfl gT kT bT .nil pass0 (pa_cons (pv 0) (pa_cons (pv 4) pa_nil)))
          (pa_cons (pe_call GT hr1 rfl gT kT bT .nil pass0 (pa_cons (pv 0) (pa_cons (pe_ix ix_tup (pv 1) pe_int (fun _ _ => rfl)) pa_nil))) pa_nil)))) pa_nil)))))
      (pss_one (ps_ret (pv 5)))))), ?_⟩
    refine ⟨(by show 4 ≤ sizeLine; decide), fun L hL => ?_⟩
    have nL := hR.ne hL
    refine ⟨_, rfl, r, 4, rfl, hR.but (same_new hL), by decide, fun H1 v v0 v1 hR1 s1 => ?_⟩
    have eL : H1 L = some (.lst [.int 1, .int 5, .int 60, .int 1000]) := s1 _ _ nL upd_same
    have sb1 : SameBut r H H1 := sb_trans (sb_of (same_new hL)) s1
    obtain ⟨k, hk, k8⟩ : ∃ k : Int, atI [V.int 1, .int 5, .int 60, .int 1000] v = some (.int k) ∧ (1 ≤ k ∧ k ≤ 1000) := by
      rcases (by omega : v = 0 ∨ v = 1 ∨ v = 2 ∨ v = 3) with rfl | rfl | rfl | rfl
      · exact ⟨1, rfl, by decide⟩
      · exact ⟨5, rfl, by decide⟩
      · exact ⟨60, rfl, by decide⟩
      · exact ⟨1000, rfl, by decide⟩
    refine ⟨L, _, v, _, rfl, rfl, SqL.of eL, hk, ?_⟩
    refine ⟨_, rfl, a, _, 0, _, rfl, rfl, hTB sb1, atI_nat (j := 0) rfl, _, rfl, a, _, 0, _, rfl, rfl, hTB sb1, atI_nat (j := 0) rfl, _, _, rfl, (by show 2 ≤ sizeLine; decide), fun L2 hL2 => ?_⟩
    have nL2 := hR1.ne hL2
    refine ⟨_, rfl, r, 2, rfl, hR1.but (same_new hL2), by decide, fun H2 v2 v20 v21 hR2 s2 => ?_⟩
    have eL2 : H2 L2 = some (.lst [.int d.tr, .int (if (4 : Int) < d.tr then 4 else d.tr)]) := s2 _ _ nL2 upd_same
    have sb2 : SameBut r H H2 := sb_trans sb1 (sb_trans (sb_of (same_new hL2)) s2)
    have ht1 := g.t1
    obtain ⟨k2, hk2, k28⟩ : ∃ k : Int, atI [V.int d.tr, .int (if (4 : Int) < d.tr then 4 else d.tr)] v2 = some (.int k) ∧ (1 ≤ k ∧ k ≤ d.tr) := by
      rcases (by omega : v2 = 0 ∨ v2 = 1) with rfl | rfl
      · exact ⟨d.tr, rfl, by omega⟩
      · exact ⟨_, rfl, by split <;> omega⟩
    refine ⟨L2, _, v2, _, rfl, rfl, SqL.of eL2, hk2, Nat.zero_le _, fun F hF => ?_⟩
    have nF := hR2.ne hF
    have hF0 : H F = none := sb_free sb2 nF hF
    refine ⟨_, rfl, _, rfl, _, _, rfl, rfl, r, most + 1, rfl, hR2.but (same_new hF), by omega, fun H3 n n0 n1 hR3 s3 => ?_⟩
    have sb3 : SameBut r H H3 := sb_trans sb2 (sb_trans (sb_of (same_new hF)) s3)
    have eF3 : H3 F = some (.lst []) := s3 _ _ nF upd_same
    refine ⟨n, rfl, by omega, by omega, ?_⟩
    refine for_range (lo := 0) (n := n.toNat) (fun i σ H' => RowAt K H' r ∧ SameBut r H H' ∧ ∃ (l : List Ask) (xs : List V) (v6 : Option V), σ = [some (.ref r), some (.ref a), some (.int most), some (.int k), some (.int k2), some (.ref F), v6] ∧
        l.length = i ∧ xs.length = i ∧ (∀ x ∈ l, GoodAsk d x) ∧ H' F = some (.lst xs) ∧ DpAll K (wo (wo H' r) F) xs (l.map dAsk)) ⟨hR3, sb3, [], [], none, rfl, rfl, rfl, fun x hx => absurd hx (by simp), eF3, .nil⟩ ?_ ?_
    · rintro i σ H' hi ⟨hR', sb', l, xs, v6, rfl, hl, hx, hg, eF, hda⟩
      refine ⟨_, rfl, .inl ⟨rfl, _, SqL.of eF⟩, ?_⟩
      refine ⟨_, rfl, _, rfl, r, k, rfl, hR', by omega, fun H4 c c0 c1 hR4 s4 => ?_⟩
      refine ⟨_, rfl, _, rfl, r, k2, rfl, hR4, by omega, fun H5 t t0 t1 hR5 s5 => ?_⟩
      have sb5 := sb_trans sb' (sb_trans s4 s5)
      refine ⟨_, rfl, _, rfl, a, _, 1, _, rfl, rfl, hTB sb5, atI_nat (j := 1) rfl, r, d.sc, rfl, hR5, (by have := g.s1; omega), fun H6 z z0 z1 hR6 s6 => ?_⟩
      refine ⟨(by show 3 ≤ sizeLine; decide), fun p hp => ?_⟩
      have sb6 := sb_trans sb5 s6
      have sF6 := sb_trans s4 (sb_trans s5 s6)
      have eF6 : H6 F = some (.lst xs) := sF6 _ _ nF eF
      have nFp : F ≠ p := ne_of_none eF6 hp
      have npr : p ≠ r := hR6.ne hp
      refine ⟨F, xs, .ref p, rfl, rfl, by rw [upd_ne nFp]; exact eF6, small1000 (by omega), ?_⟩
      refine ⟨(hR6.but (same_new hp)).put nF (by rw [upd_ne nFp]; exact eF6), sb_old (sb_new sb6 hp) hF0, l ++ [(c, t, z)], xs ++ [.ref p], some (.int (0 + (i : Int))), rfl, by rw [List.length_append, hl]; rfl, by rw [List.length_append, hx]; rfl, ?_, upd_same, ?_⟩
      · intro x hx'
        rcases List.mem_append.mp hx' with h | h
        · exact hg x h
        · rw [List.mem_singleton.mp h]
          exact ⟨c0, by show c ≤ 999; omega, t0, by show t < d.tr; omega, z0, z1⟩
      · rw [List.map_append]
        refine dpa_snoc (dpa_same ?_ hda) ?_
        · exact wo2_step fun b o n1 n2 e => by rw [upd_ne n2, upd_ne (ne_of_none (sF6 b o n1 e) hp)]; exact sF6 b o n1 e
        · exact dp_tints_of (ns := [c, t, z]) (.inl (.inl (by rw [wo_ne nFp.symm, wo_ne npr, upd_ne nFp.symm, upd_same]; rfl)))
    · rintro σ H' ⟨hR', sb', l, xs, v6, rfl, hl, hx, hg, eF, hda⟩
      exact ⟨_, rfl, q H' F l xs ⟨by omega, hg⟩ (by omega) hR' sb' nF hF0 eF hda⟩
end
/-! ### the law's text -/
abbrev s_l_text : Stmt := top 26
def sp_l_text (K : PySem.W.Frag) : Sp := fun vs H Q _ => ∃ (u : V) (l : List Ask), vs = [u] ∧ Dp K H u (dAsks l) ∧ l.length ≤ 40 ∧ (∀ q ∈ l, ∀ n ∈ askNs q, Few n) ∧ ∀ H', Same H H' → Q (.str (textS l)) H'
theorem sc_l_text : FnScope ["_law_asks_here", "_law_come", "_law_track", "_law_sector"] ["_law_asks_here"] (defScope s_l_text) := ⟨rfl, rfl, rfl, by decide +kernel, rfl, by decide +kernel, by decide +kernel⟩
section
variable {P : Program} {w : World} {K : PySem.W.Frag} {mg : Str → Option Value} {base : Heap}
theorem ok_l_text {f : Addr} {fd : FuncData} (F : Fun K "_law_text" "_law_text" s_l_text f fd) (mb_str : mg "str" = none) : FnOk P w K mg base CX0 1 f fd ["_law_asks_here"] (sp_l_text K) := by
  refine F.ok sc_l_text (fun vs H Q E h => ?_) (fun cdv A outer s H vs Q E hr h => ?_)
  · obtain ⟨u, l, rfl, _⟩ := h
    rfl
  · obtain ⟨u, l, rfl, ha, h40, few, q⟩ := h
    have nd := sc_l_text.nd
    obtain ⟨b, xs, rfl, hL, hlen, hat⟩ := dp_asks ha
    refine ⟨_, (pss_one (ps_ret (pe_join pe_str (pe_lc (own := [("_law_come", 1), ("_law_track", 2), ("_law_sector", 3)]) (g := (gTup K 3 (gCons (gName 1) (gCons (gName 2) (gCons (gName 3) gNil))))) (tt := tYes) rfl nd (pi_list (pv 0)) (blkOk_by (own := [("_law_come", 1), ("_law_track", 2), ("_law_sector", 3)]) (N := ["_law_asks_here", "_law_come", "_law_track", "_law_sector"]) (sc := defScope s_l_text) (by decide +kernel)) (fun _ _ _ _ _ => (pg_tup rfl (pgs_cons (pg_name (i := 1) nd rfl (.inl rfl)) (pgs_cons (pg_name (i := 2) nd rfl (.inl rfl)) (pgs_cons (pg_name (i := 3) nd rfl (.inl rfl)) pgs_nil))))) (fun _ _ _ _ _ => pts_nil) (fun _ _ _ _ _ => (pe_op op_add_str (pe_op op_add_str (pe_op op_add_str (pe_op op_add_str (pe_callTy call_str_int (by rfl) mb_str (by decide +kernel) (pa_cons (pv 1) pa_nil)) pe_str) (pe_callTy call_str_int (by rfl) mb_str (by decide +kernel) (pa_cons (pv 2) pa_nil))) pe_str) (pe_callTy call_str_int (by rfl) mb_str (by decide +kernel) (pa_cons (pv 3) pa_nil)))))))), ?_⟩
    refine ⟨⟨_, rfl⟩, _, rfl, b, rfl, ⟨xs, hL⟩, fun D hD => ?_⟩
    have s1 := same_new (o := .lst []) hD
    refine lc_list (K := K) (a := b) (xs := xs) (fun i H' => Same H H' ∧ H' D = some (.lst (((l.take i).map rowS).map V.str))) ⟨s1, upd_same⟩ (fun i H' _ ⟨s, _⟩ => s.seq hL) ?_ ?_
    · rintro i x H' hi ⟨s2, eD⟩
      have hlt : i < xs.length := (List.getElem?_eq_some_iff.mp hi).1
      obtain ⟨k, hk⟩ : ∃ k, l[i]? = some k := ⟨_, List.getElem?_eq_getElem (by omega)⟩
      obtain ⟨p, hp, hpT, _⟩ := hat i k hk
      obtain rfl : x = .ref p := Option.some.inj (hi.symm.trans hp)
      have fk := few k (List.mem_of_getElem? hk)
      have f1 : Few k.1 := fk _ (by simp [askNs])
      have f2 : Few k.2.1 := fk _ (by simp [askNs])
      have f3 : Few k.2.2 := fk _ (by simp [askNs])
      have l1 := (numS_len f1).2
      have l2 := (numS_len f2).2
      have l3 := (numS_len f3).2
      have e1 : spS.length = 1 := by decide +kernel
      have small : ∀ {n : Nat}, n ≤ 1000 → n ≤ sizeLine := fun h => Nat.le_of_lt (small1000 h)
      have a1 : (numS k.1 ++ spS).length ≤ 4 := by rw [Str.length_append]; omega
      have a2 : (numS k.1 ++ spS ++ numS k.2.1).length ≤ 7 := by rw [Str.length_append]; omega
      have a3 : (numS k.1 ++ spS ++ numS k.2.1 ++ spS).length ≤ 8 := by rw [Str.length_append]; omega
      refine ⟨p, _, rfl, same_sqt s2 hpT, rfl, _, _, rfl, _, _, rfl, _, _, rfl, rfl, rfl, ?_⟩
      refine ⟨_, rfl, k.1, rfl, log2_small f1, numS k.1, spS, rfl, rfl, small (by omega), ?_⟩
      refine ⟨_, rfl, k.2.1, rfl, log2_small f2, _, numS k.2.1, rfl, rfl, small (by omega), ?_⟩
      refine ⟨_, spS, rfl, rfl, small (by omega), ?_⟩
      refine ⟨_, rfl, k.2.2, rfl, log2_small f3, _, numS k.2.2, rfl, rfl, small (by omega), ?_⟩
      rw [rowS_law]
      refine ⟨_, eD, ?_, same_upd s2 hD, ?_⟩
      · rw [List.length_map, List.length_map, List.length_take]
        exact small1000 (by omega)
      · rw [upd_same, take_more hk, List.map_append, List.map_append]
        rfl
    · rintro H' ⟨s2, eD⟩
      rw [List.take_of_length_le (by omega)] at eD
      refine ⟨_, D, l.map rowS, rfl, rfl, .inl (SqL.of eD), ?_, ?_⟩
      · have := sum_len (k := 11) (ws := l.map rowS) fun z hz => by
          obtain ⟨n, hn, rfl⟩ := List.mem_map.mp hz
          exact (rowS_len (few n hn)).2
        have e2 : nlS.length = 1 := by decide +kernel
        rw [List.length_map] at this ⊢
        show _ + l.length * nlS.length ≤ _
        rw [e2]
        omega
      · exact q _ s2
end
end Ag

namespace Ag
open PySem PySem.Spec PyProof.Rows L2
/-! ### the law's look at two answers: the same data is alike -/
abbrev s_l_alike : Stmt := top 23
def okD : Nat → PyData → Prop
  | 0, _ => False
  | n + 1, .list ds => ds.length ≤ 1000000 ∧ ∀ d ∈ ds, okD n d
  | n + 1, .tuple ds => ds.length ≤ 1000000 ∧ ∀ d ∈ ds, okD n d
  | _ + 1, .dict _ => False
  | _ + 1, _ => True
theorem okD_int (n : Nat) (i : Int) : okD (n + 1) (.int i) := by simp [okD]
theorem okD_str (n : Nat) (i : Str) : okD (n + 1) (.str i) := by simp [okD]
theorem okD_list {n : Nat} {ds : List PyData} (h : ds.length ≤ 1000000) (h2 : ∀ d ∈ ds, okD n d) : okD (n + 1) (.list ds) := by
  unfold okD
  exact ⟨h, h2⟩
theorem okD_tuple {n : Nat} {ds : List PyData} (h : ds.length ≤ 1000000) (h2 : ∀ d ∈ ds, okD n d) : okD (n + 1) (.tuple ds) := by
  unfold okD
  exact ⟨h, h2⟩
theorem okD_ints (n : Nat) (ns : List Int) : ∀ d ∈ ns.map PyData.int, okD (n + 1) d := fun d hd => by
  obtain ⟨i, _, rfl⟩ := List.mem_map.mp hd
  exact okD_int n i
def tyN : PyData → String
  | .none => "NoneType"
  | .bool _ => "bool"
  | .int _ => "int"
  | .str _ => "str"
  | .list _ => "list"
  | .tuple _ => "tuple"
  | .dict _ => "dict"
theorem dp_ty {K : PySem.W.Frag} {H : Hp} {x : V} : ∀ {d : PyData}, Dp K H x d → TyX K H x (.type (tyN d))
  | .none, h => by cases h; exact .base .non
  | .bool _, h => by cases h; exact .base (.bl _)
  | .int _, h => by cases h; exact .base (.int _)
  | .str _, h => by cases h; exact .base (.str _)
  | .list _, h => by
    cases h with
    | lst hs ha =>
      rcases hs with (h | ⟨o, h⟩) | ⟨o, its, n, h, c, _⟩
      · exact .base (.lst h)
      · exact .base (.frz h)
      · exact .kList h c
  | .tuple _, h => by
    cases h with
    | tup hs ha =>
      rcases hs with (h | ⟨o, h⟩) | ⟨o, its, n, h, c, _⟩
      · exact .base (.tup h)
      · exact .fTuple h
      · exact .kTuple h c
  | .dict _, h => by cases h
def sp_l_alike (n : Nat) (K : PySem.W.Frag) : Sp := fun vs H Q _ => ∃ (x y : V) (d : PyData), vs = [x, y] ∧ Dp K H x d ∧ Dp K H y d ∧ okD n d ∧ ∀ H' : Hp, Same H H' → Q (.bl true) H'
theorem sc_l_alike : FnScope ["_law_found", "_law_due_here", "_law_k"] ["_law_found", "_law_due_here"] (defScope s_l_alike) := ⟨rfl, rfl, rfl, by decide +kernel, rfl, by decide +kernel, by decide +kernel⟩
/-- length and items of a list or tuple that is read -/
theorem dp_seq {K : PySem.W.Frag} {H : Hp} {x : V} {ds : List PyData} (h : Dp K H x (.list ds) ∨ Dp K H x (.tuple ds)) : ∃ a xs, x = .ref a ∧ (SqL K H a xs ∨ SqT K H a xs) ∧ DpAll K H xs ds := by
  rcases h with h | h
  · obtain ⟨a, xs, e, h1, h2⟩ := dp_list h
    exact ⟨a, xs, e, .inl h1, h2⟩
  · obtain ⟨a, xs, e, h1, h2⟩ := dp_tuple h
    exact ⟨a, xs, e, .inr h1, h2⟩
theorem lenv_seq {K : PySem.W.Frag} {H : Hp} {a : Addr} {xs : List V} {n : Nat} (h : SqL K H a xs ∨ SqT K H a xs) (e : n = xs.length) : LenV K (.ref a) H n := by
  rcases h with h | h
  · exact .inl ⟨xs, h, e⟩
  · exact .inr ⟨xs, h, e⟩
theorem rix_seq {K : PySem.W.Frag} {H : Hp} {a : Addr} {xs : List V} {i : Int} {v : V} {Q : VK} (h : SqL K H a xs ∨ SqT K H a xs) (e : atI xs i = some v) (q : Q v H) : rIx K (.ref a) (.int i) H Q := by
  rcases h with h | h
  · exact .inl ⟨a, xs, i, v, rfl, rfl, h, e, q⟩
  · exact .inr (.inl ⟨a, xs, i, v, rfl, rfl, h, e, q⟩)
section
variable {P : Program} {w : World} {K : PySem.W.Frag} {mg : Str → Option Value} {base : Heap}
theorem kit_not {a b : String} {r : Bool} (h : kitB a b = some r) : PySem.W.kitOne K (.type a) (.type b) = some r := kit_ty h
set_option maxHeartbeats 16000000 in
theorem ok_l_alike {f : Addr} {fd : FuncData} (F : Fun K "_law_alike" "_law_alike" s_l_alike f fd) (bA : Binds K fd ["_law_found", "_law_due_here"] []) (gA : mg "_law_alike" = some (.ref f)) (mi : mg "isinstance" = none) (mt : mg "tuple" = none) (ml : mg "list" = none) (mb : mg "bool" = none) (ms : mg "str" = none) (mn : mg "int" = none)
    (me : mg "len" = none) (mr : mg "range" = none) : ∀ n : Nat, FnOk P w K mg base CX0 (n + 1) f fd ["_law_found", "_law_due_here"] (sp_l_alike n K)
  | 0 => by
    refine F.ok sc_l_alike (fun vs H Q E h => ?_) (fun cdv A outer s H vs Q E hr h => ?_)
    · obtain ⟨x, y, d, rfl, _⟩ := h
      rfl
    · obtain ⟨x, y, d, _, _, _, h, _⟩ := h
      unfold okD at h
      exact h.elim
  | n + 1 => by
    have G := ok_l_alike F bA gA mi mt ml mb ms mn me mr n
    refine F.ok sc_l_alike (fun vs H Q E h => ?_) (fun cdv A outer s H vs Q E hr h => ?_)
    · obtain ⟨x, y, d, rfl, _⟩ := h
      rfl
    · obtain ⟨x, y, d, rfl, hx, hy, hok, q⟩ := h
      have nd := sc_l_alike.nd
      refine ⟨_, pss_cons (ps_if (PW.pt (pw_or (pt_val (pe_callB call_isi (by rfl) mi (by decide +kernel) (pa_cons (pv 1) (pa_cons (pe_bltn (v := .ty "tuple") rfl mt (by decide +kernel) rfl) pa_nil))))
          (pw_or1 (pt_val (pe_callB call_isi (by rfl) mi (by decide +kernel) (pa_cons (pv 1) (pa_cons (pe_bltn (v := .ty "list") rfl ml (by decide +kernel) rfl) pa_nil)))))))
          (pss_cons (ps_if (PW.pt (pw_or (pt_cmpR op_ne (pe_callB call_isi (by rfl) mi (by decide +kernel) (pa_cons (pv 0) (pa_cons (pe_bltn (v := .ty "tuple") rfl mt (by decide +kernel) rfl) pa_nil))) (pe_callB call_isi (by rfl) mi (by decide +kernel) (pa_cons (pv 1) (pa_cons (pe_bltn (v := .ty "tuple") rfl mt (by decide +kernel) rfl) pa_nil))) (nomark _))
            (pw_or1 (pt_not (pt_val (pe_callB call_isiT (by rfl) mi (by decide +kernel) (pa_cons (pv 0) (pa_cons (pe_tup (pa_cons (pe_bltn (v := .ty "tuple") rfl mt (by decide +kernel) rfl) (pa_cons (pe_bltn (v := .ty "list") rfl ml (by decide +kernel) rfl) pa_nil))) pa_nil))))))))
            (pss_one ps_never) pss_nil)
          (pss_cons (ps_if (pt_cmpR op_ne (pe_callB call_len (by rfl) me PySem.boot_len (pa_cons (pv 0) pa_nil)) (pe_callB call_len (by rfl) me PySem.boot_len (pa_cons (pv 1) pa_nil)) (nomark _)) (pss_one ps_never) pss_nil)
          (pss_one (ps_ret (pe_cmpR (op_eqD hr.units) (pe_lc (own := [("_law_k", 2)]) (g := gName 2) rfl nd (pi_range1 rfl mr (pa_cons (pe_callB call_len (by rfl) me PySem.boot_len (pa_cons (pv 1) pa_nil)) pa_nil)) (blkOk_by (own := [("_law_k", 2)]) (N := ["_law_found", "_law_due_here", "_law_k"]) (sc := defScope s_l_alike) (by decide +kernel))
            (fun _ _ _ _ _ => pg_name (i := 2) nd rfl (Or.inl rfl))
            (fun _ _ _ _ _ => pts_one (pt_not (pt_val (pe_call G hr rfl gA F.kp bA .nil pass0 (pa_cons (pe_ix (r := rIx K) ix_seq (pv 0) (pv 2) (fun _ _ => rfl)) (pa_cons (pe_ix (r := rIx K) ix_seq (pv 1) (pv 2) (fun _ _ => rfl)) pa_nil))))))
            (fun _ _ _ _ _ => pv 2)) (pe_lst pa_nil) (nomark _)))))) pss_nil)
        (pss_cons (ps_if (PW.pt (pw_or (pt_cmpR op_isN (pv 1) pe_non (nomark _)) (pw_or1 (pt_cmpR op_isN (pv 0) pe_non (nomark _))))) (pss_one (ps_ret (pe_and (pe_cmpR op_isN (pv 1) pe_non (nomark _)) (pe_one (pe_cmpR op_isN (pv 0) pe_non (nomark _)))))) pss_nil)
        (pss_cons (ps_if (PW.pt (pw_or (pt_val (pe_callB call_isi (by rfl) mi (by decide +kernel) (pa_cons (pv 1) (pa_cons (pe_bltn (v := .ty "bool") rfl mb (by decide +kernel) rfl) pa_nil)))) (pw_or1 (pt_val (pe_callB call_isi (by rfl) mi (by decide +kernel) (pa_cons (pv 0) (pa_cons (pe_bltn (v := .ty "bool") rfl mb (by decide +kernel) rfl) pa_nil)))))))
          (pss_one (ps_ret (pe_and (pe_callB call_isi (by rfl) mi (by decide +kernel) (pa_cons (pv 1) (pa_cons (pe_bltn (v := .ty "bool") rfl mb (by decide +kernel) rfl) pa_nil))) (pe_and (pe_callB call_isi (by rfl) mi (by decide +kernel) (pa_cons (pv 0) (pa_cons (pe_bltn (v := .ty "bool") rfl mb (by decide +kernel) rfl) pa_nil))) (pe_one (pe_cmpR op_eq (pv 0) (pv 1) (nomark _))))))) pss_nil)
        (pss_cons (ps_if (pt_val (pe_callB call_isi (by rfl) mi (by decide +kernel) (pa_cons (pv 1) (pa_cons (pe_bltn (v := .ty "str") rfl ms (by decide +kernel) rfl) pa_nil))))
          (pss_one (ps_ret (pe_and (pe_callB call_isi (by rfl) mi (by decide +kernel) (pa_cons (pv 0) (pa_cons (pe_bltn (v := .ty "str") rfl ms (by decide +kernel) rfl) pa_nil))) (pe_one (pe_cmpR op_eq (pv 0) (pv 1) (nomark _)))))) pss_nil)
        (pss_one (ps_ret (pe_and (pe_callB call_isi (by rfl) mi (by decide +kernel) (pa_cons (pv 0) (pa_cons (pe_bltn (v := .ty "int") rfl mn (by decide +kernel) rfl) pa_nil))) (pe_one (pe_cmpR op_eq (pv 0) (pv 1) (nomark _))))))))), ?_⟩
      have cls : (∃ (ds : List PyData) (tn : String) (bt : Bool), (∀ H', Same H H' → TyX K H' x (.type tn)) ∧ (∀ H', Same H H' → TyX K H' y (.type tn)) ∧ kitB tn "tuple" = some bt ∧ kitB tn "list" = some (!bt) ∧ (Dp K H x (.list ds) ∨ Dp K H x (.tuple ds)) ∧ (Dp K H y (.list ds) ∨ Dp K H y (.tuple ds)) ∧ ds.length ≤ 1000000 ∧ ∀ e ∈ ds, okD n e) ∨
          (TyX K H x (.type (tyN d)) ∧ TyX K H y (.type (tyN d)) ∧ x = y ∧ ((∃ i, d = .int i ∧ x = .int i) ∨ (∃ i, d = .str i ∧ x = .str i) ∨ (∃ i, d = .bool i ∧ x = .bl i) ∨ (d = .none ∧ x = .non))) := by
        have tx := dp_ty hx
        have ty := dp_ty hy
        cases d with
        | none =>
          cases hx
          cases hy
          exact .inr ⟨tx, ty, rfl, .inr (.inr (.inr ⟨rfl, rfl⟩))⟩
        | bool b =>
          cases hx
          cases hy
          exact .inr ⟨tx, ty, rfl, .inr (.inr (.inl ⟨b, rfl, rfl⟩))⟩
        | int i =>
          cases hx
          cases hy
          exact .inr ⟨tx, ty, rfl, .inl ⟨i, rfl, rfl⟩⟩
        | str i =>
          cases hx
          cases hy
          exact .inr ⟨tx, ty, rfl, .inr (.inl ⟨i, rfl, rfl⟩)⟩
        | list ds =>
          unfold okD at hok
          exact .inl ⟨ds, "list", false, fun H' s => dp_ty (dp_same s hx), fun H' s => dp_ty (dp_same s hy), by decide +kernel, by decide +kernel, .inl hx, .inl hy, hok.1, hok.2⟩
        | tuple ds =>
          unfold okD at hok
          exact .inl ⟨ds, "tuple", true, fun H' s => dp_ty (dp_same s hx), fun H' s => dp_ty (dp_same s hy), by decide +kernel, by decide +kernel, .inr hx, .inr hy, hok.1, hok.2⟩
        | dict kvs => cases hx
      rcases cls with ⟨ds, tn, bt, tx, ty, kt, kl, hx', hy', hlen, hall⟩ | ⟨tx, ty, rfl, hsc⟩
      · obtain ⟨a, xs, rfl, hxs, hxa⟩ := dp_seq hx'
        obtain ⟨b, ys, rfl, hys, hya⟩ := dp_seq hy'
        have exl : xs.length = ds.length := dpa_len hxa
        have eyl : ys.length = ds.length := dpa_len hya
        have kA : PySem.W.kitAny K (.type tn) [.type "tuple", .type "list"] = some true := by
          cases bt with
          | true => exact kitAny_cons (kit_ty kt) (fun z => by cases z) (fun _ => rfl)
          | false => exact kitAny_cons (kit_ty kt) (fun _ => kitAny_cons (kit_ty kl) (fun z => by cases z) (fun _ => rfl)) (fun z => by cases z)
        have ty0 := ty H (Same.refl H)
        have tx0 := tx H (Same.refl H)
        refine ⟨_, rfl, .ref b, .ty "tuple", _, _, bt, rfl, ClsV.ty _, ty0, kit_ty kt, _, rfl, ?_⟩
        have step : ∀ {A B D : Prop}, (bt = false → (if true = true then A else B) → D) → A → (if bt = true then (if true = true then A else B) else D) := fun h1 h2 => by
          cases bt with
          | true => exact iteT (iteT h2)
          | false => exact iteF (h1 rfl (iteT h2))
        refine step (fun _ hh => ⟨_, rfl, .ref b, .ty "list", _, _, true, rfl, ClsV.ty _, ty0, kit_ty (by rw [kl]; cases bt <;> first | rfl | contradiction), _, rfl, hh⟩) ?_
        refine ⟨_, rfl, .ref a, .ty "tuple", _, _, bt, rfl, ClsV.ty _, tx0, kit_ty kt, _, rfl, .ref b, .ty "tuple", _, _, bt, rfl, ClsV.ty _, ty0, kit_ty kt, rfl, _, rfl, ifnd_t rfl ?_⟩
        refine ⟨_, rfl, (by show 2 ≤ sizeLine; decide), fun tp htp => ?_⟩
        have s1 : Same H (upd H tp (.tup [.ty "tuple", .ty "list"])) := same_new htp
        refine ⟨.ref a, tp, _, _, _, true, rfl, upd_same, .cons (ClsV.ty _) (.cons (ClsV.ty _) .nil), tx _ s1, kA, _, rfl, iteF ?_⟩
        have m1 : ∀ {H' : Hp}, Same H H' → (SqL K H' a xs ∨ SqT K H' a xs) := fun s => hxs.elim (fun h => .inl (s.seq h)) (fun h => .inr (same_sqt s h))
        have m2 : ∀ {H' : Hp}, Same H H' → (SqL K H' b ys ∨ SqT K H' b ys) := fun s => hys.elim (fun h => .inl (s.seq h)) (fun h => .inr (same_sqt s h))
        refine ⟨_, rfl, _, ds.length, rfl, lenv_seq (m1 s1) exl.symm, _, rfl, _, ds.length, rfl, lenv_seq (m2 s1) eyl.symm, rfl, _, rfl, ifnd_t rfl ?_⟩
        refine ⟨_, rfl, _, ds.length, rfl, lenv_seq (m2 s1) eyl.symm, _, rfl, by omega, by omega, fun D hD => ?_⟩
        have s2 : Same H (upd (upd H tp (.tup [.ty "tuple", .ty "list"])) D (.lst [])) := s1.trans (same_new hD)
        refine lc_range (lo := 0) (n := ds.length) (fun i H' => Same H H' ∧ H' D = some (.lst [])) ⟨s2, upd_same⟩ ?_ ?_
        · rintro i H' hi ⟨s3, eD⟩
          obtain ⟨e, he⟩ : ∃ e, ds[i]? = some e := ⟨_, List.getElem?_eq_getElem hi⟩
          obtain ⟨u, hu, hud⟩ := dpa_get hxa he
          obtain ⟨v, hv, hvd⟩ := dpa_get hya he
          refine ⟨rfl, _, rfl, _, rfl, rix_seq (m1 s3) (at_of (j := i) (by omega) hu) ?_⟩
          refine ⟨_, rfl, _, rfl, rix_seq (m2 s3) (at_of (j := i) (by omega) hv) ?_⟩
          refine ⟨u, v, e, rfl, dp_same s3 hud, dp_same s3 hvd, hall e (List.mem_of_getElem? he), fun H4 s4 => ⟨_, rfl, iteF ⟨s3.trans s4, s4 _ _ eD⟩⟩⟩
        · rintro H' ⟨s3, eD⟩
          refine ⟨Nat.zero_le _, fun z hz => ?_⟩
          have s4 := same_new (o := .lst []) hz
          exact ⟨.list [], .list [], .lst (SqL.of (s4 _ _ eD)) .nil, .lst (SqL.of upd_same) .nil, rfl, rfl, q _ (s3.trans s4)⟩
      · have step0 : ∀ {A : Prop}, A → A := fun h => h
        rcases hsc with ⟨i, rfl, rfl⟩ | ⟨i, rfl, rfl⟩ | ⟨i, rfl, rfl⟩ | ⟨rfl, rfl⟩
        · have tx : TyX K H _ (.type "int") := tx
          have ty : TyX K H _ (.type "int") := ty
          refine ⟨_, rfl, _, .ty "tuple", _, _, false, rfl, ClsV.ty _, ty, kit_ty (by decide +kernel), _, rfl, iteF ⟨_, rfl, _, .ty "list", _, _, false, rfl, ClsV.ty _, ty, kit_ty (by decide +kernel), _, rfl, iteF ?_⟩⟩
          refine ⟨_, rfl, rfl, _, rfl, ifd_f (by intro z; cases z) ⟨_, rfl, rfl, _, rfl, ifd_f (by intro z; cases z) ?_⟩⟩
          refine ⟨_, rfl, _, .ty "bool", _, _, false, rfl, ClsV.ty _, ty, kit_ty (by decide +kernel), _, rfl, iteF ⟨_, rfl, _, .ty "bool", _, _, false, rfl, ClsV.ty _, tx, kit_ty (by decide +kernel), _, rfl, iteF ?_⟩⟩
          refine ⟨_, rfl, _, .ty "str", _, _, false, rfl, ClsV.ty _, ty, kit_ty (by decide +kernel), _, rfl, iteF ?_⟩
          refine ⟨_, rfl, _, .ty "int", _, _, true, rfl, ClsV.ty _, tx, kit_ty (by decide +kernel), _, rfl, iteT ⟨_, rfl, _, rfl, rfl, ?_⟩⟩
          rw [decide_eq_true rfl]
          exact q _ (Same.refl _)
        · have tx : TyX K H _ (.type "str") := tx
          have ty : TyX K H _ (.type "str") := ty
          refine ⟨_, rfl, _, .ty "tuple", _, _, false, rfl, ClsV.ty _, ty, kit_ty (by decide +kernel), _, rfl, iteF ⟨_, rfl, _, .ty "list", _, _, false, rfl, ClsV.ty _, ty, kit_ty (by decide +kernel), _, rfl, iteF ?_⟩⟩
          refine ⟨_, rfl, rfl, _, rfl, ifd_f (by intro z; cases z) ⟨_, rfl, rfl, _, rfl, ifd_f (by intro z; cases z) ?_⟩⟩
          refine ⟨_, rfl, _, .ty "bool", _, _, false, rfl, ClsV.ty _, ty, kit_ty (by decide +kernel), _, rfl, iteF ⟨_, rfl, _, .ty "bool", _, _, false, rfl, ClsV.ty _, tx, kit_ty (by decide +kernel), _, rfl, iteF ?_⟩⟩
          refine ⟨_, rfl, _, .ty "str", _, _, true, rfl, ClsV.ty _, ty, kit_ty (by decide +kernel), _, rfl, iteT ?_⟩
          refine ⟨_, rfl, _, .ty "str", _, _, true, rfl, ClsV.ty _, tx, kit_ty (by decide +kernel), _, rfl, iteT ⟨_, rfl, _, rfl, rfl, ?_⟩⟩
          rw [decide_eq_true rfl]
          exact q _ (Same.refl _)
        · have tx : TyX K H _ (.type "bool") := tx
          have ty : TyX K H _ (.type "bool") := ty
          refine ⟨_, rfl, _, .ty "tuple", _, _, false, rfl, ClsV.ty _, ty, kit_ty (by decide +kernel), _, rfl, iteF ⟨_, rfl, _, .ty "list", _, _, false, rfl, ClsV.ty _, ty, kit_ty (by decide +kernel), _, rfl, iteF ?_⟩⟩
          refine ⟨_, rfl, rfl, _, rfl, ifd_f (by intro z; cases z) ⟨_, rfl, rfl, _, rfl, ifd_f (by intro z; cases z) ?_⟩⟩
          refine ⟨_, rfl, _, .ty "bool", _, _, true, rfl, ClsV.ty _, ty, kit_ty (by decide +kernel), _, rfl, iteT (iteT ?_)⟩
          refine ⟨_, rfl, _, .ty "bool", _, _, true, rfl, ClsV.ty _, ty, kit_ty (by decide +kernel), _, rfl, iteT ⟨_, rfl, _, .ty "bool", _, _, true, rfl, ClsV.ty _, tx, kit_ty (by decide +kernel), _, rfl, iteT ⟨_, rfl, _, rfl, rfl, ?_⟩⟩⟩
          rw [decide_eq_true rfl]
          exact q _ (Same.refl _)
        · have tx : TyX K H _ (.type "NoneType") := tx
          have ty : TyX K H _ (.type "NoneType") := ty
          refine ⟨_, rfl, _, .ty "tuple", _, _, false, rfl, ClsV.ty _, ty, kit_ty (by decide +kernel), _, rfl, iteF ⟨_, rfl, _, .ty "list", _, _, false, rfl, ClsV.ty _, ty, kit_ty (by decide +kernel), _, rfl, iteF ?_⟩⟩
          refine ⟨_, rfl, rfl, _, rfl, ifd_t rfl (iteT ?_)⟩
          refine ⟨_, rfl, rfl, _, rfl, ifd_t rfl ⟨_, rfl, rfl, ?_⟩⟩
          exact q _ (Same.refl _)
end
end Ag

namespace Ag
open PySem PySem.Spec PyProof.Rows L2
/-! ### a text changed: any other text of no more than so many signs -/
abbrev s_l_spoilt : Stmt := top 30
def sp_l_spoilt (K : PySem.W.Frag) : Sp := fun vs H Q _ => ∃ (r : Addr) (x : Str), vs = [.ref r, .str x] ∧ RowAt K H r ∧ x.length ≤ 280000 ∧ WOk x ∧ ∀ (H' : Hp) (y : Str), y.length ≤ 43 * (x.length + 1) → WOk y → RowAt K H' r → SameBut r H H' → Q (.str y) H'
theorem sc_l_spoilt : FnScope ["_law_row", "_law_text_here", "_law_way", "_law_at", "_law_whole", "_law_signs", "_law_sign", "_law_lines", "_law_k", "_law_words", "_law_j", "_law_odd"] ["_law_row", "_law_text_here"] (defScope s_l_spoilt) := ⟨rfl, rfl, rfl, by decide +kernel, rfl, by decide +kernel, by decide +kernel⟩
def sigA : Str := Str.ofString "0123456789 \n-x"
def sigB : Str := Str.ofString " !#$&'()*+,-./0123456789:;<=>?@ABCDEFGHIJKLMNOPQRSTUVWXYZ[]^_abcdefghijklmnopqrstuvwxyz{|}~"
def okSig (z : Str) : Bool := decide (1 ≤ z.length) && (decide (z.length ≤ 200) && z.cps.toList.all fun c => decide (c < 256))
theorem okSigA : okSig sigA = true := by decide +kernel
theorem okSigB : okSig sigB = true := by decide +kernel
theorem okSig_is {z : Str} (h : okSig z = true) : 1 ≤ z.length ∧ z.length ≤ 200 ∧ WOk z := by
  unfold okSig at h
  simp only [Bool.and_eq_true, decide_eq_true_eq, List.all_eq_true] at h
  exact ⟨h.1, h.2.1, fun c hc => h.2.2 c hc⟩
section
variable {P : Program} {w : World} {K : PySem.W.Frag} {mg : Str → Option Value} {base : Heap}
theorem ok_l_spoilt {f fT : Addr} {fd fdT : FuncData} (F : Fun K "_law_spoilt" "_law_spoilt" s_l_spoilt f fd)
    (G__law_taken : FnOk P w K mg base CX0 1 fT fdT ["_law_row", "_law_many"] (sp_l_taken K)) (C__law_taken : Cal K mg "_law_taken" fT fdT ["_law_row", "_law_many"])
    (mb_len : mg "len" = none) (mb_int : mg "int" = none) :
    FnOk P w K mg base CX0 2 f fd ["_law_row", "_law_text_here"] (sp_l_spoilt K) := by
  refine F.ok sc_l_spoilt (fun vs H Q E h => ?_) (fun cdv A outer s H vs Q E hr h => ?_)
  · obtain ⟨r, x, rfl, _⟩ := h
    rfl
  · obtain ⟨r, x, rfl, hR, hx, wok, q⟩ := h
    have nd := sc_l_spoilt.nd
    have hr__law_taken : Room 1 _ := hr.mono (by decide)
    have hsl := sizeLine_eq
    refine ⟨_, (pss_cons (ps_set (i := 2) nd rfl (.inl rfl) (pe_call G__law_taken hr__law_taken rfl C__law_taken.m C__law_taken.k C__law_taken.b .nil pass0 (pa_cons (pv 0) (pa_cons pe_int pa_nil))))
      (pss_cons (ps_set (i := 3) nd rfl (.inl rfl) (pe_call G__law_taken hr__law_taken rfl C__law_taken.m C__law_taken.k C__law_taken.b .nil pass0 (pa_cons (pv 0) (pa_cons (pe_op op_add (pe_callB call_len (by rfl) mb_len PySem.boot_len (pa_cons (pv 1) pa_nil)) pe_int) pa_nil))))
      (pss_cons (ps_set (i := 4) nd rfl (.inl rfl) pe_str)
      (pss_cons (ps_set (i := 5) nd rfl (.inl rfl) (pe_ix (r := rIxL K) ix_list (pe_lst (pa_cons pe_str (pa_cons (pv 4) pa_nil))) (pe_op op_fdiv (pe_call G__law_taken hr__law_taken rfl C__law_taken.m C__law_taken.k C__law_taken.b .nil pass0 (pa_cons (pv 0) (pa_cons pe_int pa_nil))) pe_int) (fun _ _ => rfl)))
      (pss_cons (ps_set (i := 6) nd rfl (.inl rfl) (pe_ix ix_str (pv 5) (pe_call G__law_taken hr__law_taken rfl C__law_taken.m C__law_taken.k C__law_taken.b .nil pass0 (pa_cons (pv 0) (pa_cons (pe_callB call_len (by rfl) mb_len PySem.boot_len (pa_cons (pv 5) pa_nil)) pa_nil))) (fun _ _ => rfl)))
      (pss_cons (ps_if (pt_cmpR op_lt (pv 2) pe_int (nomark _)) (pss_one (ps_ret (pe_op op_add_str (pe_op op_add_str (pe_slice sl_str (pv 1) po_none (po_some (pv 3))) (pe_ix (r := rIxL K) ix_list (pe_lst (pa_cons (pv 6) (pa_cons pe_str (pa_cons (pv 6) pa_nil)))) (pv 2) (fun _ _ => rfl))) (pe_slice sl_str (pv 1) (po_some (pe_op op_add (pv 3) (pe_callTy call_int1 (by rfl) mb_int (by decide +kernel) (pa_cons (pe_cmpR op_gt (pv 2) pe_int (nomark _)) pa_nil)))) po_none)))) pss_nil)
      (pss_cons (ps_set (i := 7) nd rfl (.inl rfl) (pe_split (pv 1) pe_str))
      (pss_cons (ps_set (i := 8) nd rfl (.inl rfl) (pe_call G__law_taken hr__law_taken rfl C__law_taken.m C__law_taken.k C__law_taken.b .nil pass0 (pa_cons (pv 0) (pa_cons (pe_callB call_len_seq (by rfl) mb_len PySem.boot_len (pa_cons (pv 7) pa_nil)) pa_nil))))
      (pss_cons (ps_if (pt_cmpR op_lt (pv 2) pe_int (nomark _)) (pss_one (ps_ret (pe_join pe_str (pe_op op_cat (pe_op op_cat (pe_slice (r := rSlL K) sl_list (pv 7) po_none (po_some (pv 8))) (pe_op op_rep (pe_lst (pa_cons (pe_ix (r := rIxL K) ix_list (pv 7) (pv 8) (fun _ _ => rfl)) pa_nil)) (pe_ix (r := rIxL K) ix_list (pe_lst (pa_cons pe_int (pa_cons pe_int (pa_cons pe_int pa_nil)))) (pe_call G__law_taken hr__law_taken rfl C__law_taken.m C__law_taken.k C__law_taken.b .nil pass0 (pa_cons (pv 0) (pa_cons pe_int pa_nil))) (fun _ _ => rfl)))) (pe_slice (r := rSlL K) sl_list (pv 7) (po_some (pe_op op_add (pv 8) pe_int)) po_none))))) pss_nil)
      (pss_cons (ps_set (i := 9) nd rfl (.inl rfl) (pe_split (pe_ix (r := rIxL K) ix_list (pv 7) (pv 8) (fun _ _ => rfl)) pe_str))
      (pss_cons (ps_set (i := 10) nd rfl (.inl rfl) (pe_call G__law_taken hr__law_taken rfl C__law_taken.m C__law_taken.k C__law_taken.b .nil pass0 (pa_cons (pv 0) (pa_cons (pe_callB call_len_seq (by rfl) mb_len PySem.boot_len (pa_cons (pv 9) pa_nil)) pa_nil))))
      (pss_cons (ps_set (i := 11) nd rfl (.inl rfl) (pe_ix (r := rIxL K) ix_list (pe_lst (pa_cons pe_str (pa_cons pe_str (pa_cons pe_str (pa_cons pe_str (pa_cons pe_str (pa_cons pe_str (pa_cons pe_str (pa_cons pe_str (pa_cons pe_str (pa_cons pe_str (pa_cons pe_str (pa_cons pe_str pa_nil))))))))))))) (pe_call G__law_taken hr__law_taken rfl C__law_taken.m C__law_taken.k C__law_taken.b .nil pass0 (pa_cons (pv 0) (pa_cons pe_int pa_nil))) (fun _ _ => rfl)))
      (pss_cons (ps_set (i := 9) nd rfl (.inl rfl) (pe_op op_cat (pe_op op_cat (pe_slice (r := rSlL K) sl_list (pv 9) po_none (po_some (pv 10))) (pe_ix (r := rIxL K) ix_list (pe_lst (pa_cons (pe_lst pa_nil) (pa_cons (pe_lst (pa_cons (pe_ix (r := rIxL K) ix_list (pv 9) (pv 10) (fun _ _ => rfl)) (pa_cons (pe_ix (r := rIxL K) ix_list (pv 9) (pv 10) (fun _ _ => rfl)) pa_nil))) (pa_cons (pe_lst (pa_cons (pv 11) pa_nil)) pa_nil)))) (pe_op op_sub (pv 2) pe_int) (fun _ _ => rfl))) (pe_slice (r := rSlL K) sl_list (pv 9) (po_some (pe_op op_add (pv 10) pe_int)) po_none)))
      (pss_one (ps_ret (pe_join pe_str (pe_op op_cat (pe_op op_cat (pe_slice (r := rSlL K) sl_list (pv 7) po_none (po_some (pv 8))) (pe_lst (pa_cons (pe_join pe_str (pv 9)) pa_nil))) (pe_slice (r := rSlL K) sl_list (pv 7) (po_some (pe_op op_add (pv 8) pe_int)) po_none)))))))))))))))))), ?_⟩
    refine ⟨_, rfl, r, 8, rfl, hR, by decide, fun H1 way way0 way8 hR1 sb1 => ?_⟩
    refine ⟨_, rfl, _, rfl, _, _, rfl, ⟨by omega, rfl⟩, _, _, rfl, rfl, r, _, rfl, hR1, by omega, fun H2 at_ at0 atl hR2 sb2 => ?_⟩
    refine ⟨_, rfl, (by show 2 ≤ sizeLine; decide), fun L hL => ?_⟩
    have nL := hR2.ne hL
    refine ⟨_, rfl, r, 3, rfl, hR2.but (same_new hL), by decide, fun H3 v3 v30 v33 hR3 sb3 => ?_⟩
    have eL : H3 L = some (.lst [.str sigA, .str sigB]) := sb3 _ _ nL upd_same
    obtain ⟨sg, hsg, oksg⟩ : ∃ sg, atI [V.str sigA, V.str sigB] (v3 / 2) = some (.str sg) ∧ okSig sg = true := by
      rcases (by omega : v3 = 0 ∨ v3 = 1 ∨ v3 = 2) with rfl | rfl | rfl
      · exact ⟨sigA, rfl, okSigA⟩
      · exact ⟨sigA, rfl, okSigA⟩
      · exact ⟨sigB, rfl, okSigB⟩
    obtain ⟨g1, g2, gok⟩ := okSig_is oksg
    have sb13 : SameBut r H H3 := sb_trans sb1 (sb_trans sb2 (sb_trans (sb_of (same_new hL)) sb3))
    refine ⟨_, _, rfl, rfl, ⟨by decide, by decide⟩, L, _, v3 / 2, .str sg, rfl, rfl, SqL.of eL, hsg, ?_⟩
    refine ⟨_, rfl, _, rfl, _, rfl, _, _, rfl, ⟨by omega, rfl⟩, r, _, rfl, hR3, by omega, fun H4 v4 v40 v4l hR4 sb4 => ?_⟩
    have ev4 : v4 = ((v4.toNat : Nat) : Int) := by omega
    have hlt4 : v4.toNat < sg.cps.toList.length := by
      have e : sg.length = sg.cps.toList.length := TL.len_tl sg
      omega
    have hc : atI sg.cps.toList v4 = some (sg.cps.toList[v4.toNat]) := by
      conv => lhs; rw [ev4]
      exact atI_nat (List.getElem?_eq_getElem hlt4)
    have cok : WOk (⟨#[sg.cps.toList[v4.toNat]]⟩ : Str) := wOk_sign gok (List.getElem_mem hlt4)
    generalize sg.cps.toList[v4.toNat] = c at hc cok
    have sb14 := sb_trans sb13 sb4
    refine ⟨_, v4, c, rfl, rfl, by omega, hc, ?_⟩
    refine ⟨_, rfl, _, _, rfl, rfl, _, rfl, if2d (fun w3 => ?_) (fun w3 => ?_)⟩
    · have w3 : way < 3 := w3
      refine ⟨_, rfl, _, rfl, at_, rfl, x, rfl, by omega, ?_⟩
      refine ⟨_, rfl, _, rfl, (by show 3 ≤ sizeLine; decide), fun L2 hL2 => ?_⟩
      obtain ⟨p, hp, p1, pok⟩ : ∃ p : Str, atI [V.str ⟨#[c]⟩, V.str (Str.ofString ""), V.str ⟨#[c]⟩] way = some (.str p) ∧ p.length ≤ 1 ∧ WOk p := by
        rcases (by omega : way = 0 ∨ way = 1 ∨ way = 2) with rfl | rfl | rfl
        · exact ⟨_, rfl, Nat.le_refl _, cok⟩
        · exact ⟨_, rfl, by decide +kernel, fun c hc => by
            have e : TL.tl (Str.ofString "") = [] := by decide +kernel
            rw [e] at hc
            cases hc⟩
        · exact ⟨_, rfl, Nat.le_refl _, cok⟩
      have c1 := cutS_length x none (some at_)
      refine ⟨_, rfl, L2, _, way, .str p, rfl, rfl, SqL.of upd_same, hp, _, p, rfl, rfl, by omega, ?_⟩
      refine ⟨_, rfl, _, rfl, _, rfl, _, _, rfl, rfl, .inr ⟨_, rfl, _, _, rfl, rfl, _, rfl, x, rfl, by omega, ?_⟩⟩
      have c2 := cutS_length x (some (at_ + (if decide (0 < way) = true then 1 else 0))) none
      refine ⟨_, _, rfl, rfl, by rw [Str.length_append]; omega, ?_⟩
      refine q _ _ ?_ (wOk_app (wOk_app (wOk_cut wok) pok) (wOk_cut wok)) (hR4.but (same_new hL2)) (sb_trans sb14 (sb_of (same_new hL2)))
      rw [Str.length_append, Str.length_append]
      omega
    · have w3 : ¬ way < 3 := w3
      refine ⟨_, rfl, ⟨_, rfl⟩, _, _, rfl, rfl, by decide +kernel, by omega, ?_⟩
      have hW0 := wt_split (x := x) tl_nl (by decide)
      obtain ⟨hs1, hs2⟩ := split_len (x := x) tl_nl (by decide)
      show rNewStrs (Txt.split x nlS) H4 _
      intro LL hLL
      have nLL := hR4.ne hLL
      have s5 := same_new (o := .lst ((Txt.split x nlS).map V.str)) hLL
      have eLL : upd H4 LL (.lst ((Txt.split x nlS).map V.str)) LL = some (.lst ((Txt.split x nlS).map V.str)) := upd_same
      have hR5 := hR4.but s5
      have sb15 := sb_trans sb14 (sb_of s5)
      revert hW0 hs1 hs2 eLL hR5 sb15
      generalize upd H4 LL (.lst ((Txt.split x nlS).map V.str)) = H5
      generalize Txt.split x nlS = ys
      intro hW0 hs1 hs2 eLL hR5 sb15
      have hys : 1 ≤ ys.length := by
        cases ys with
        | nil => have : Wt [] = 0 := rfl; omega
        | cons a b => exact Nat.succ_le_succ (Nat.zero_le _)
      have hylen : (ys.map V.str).length = ys.length := List.length_map ..
      refine ⟨_, rfl, _, rfl, LL, _, rfl, .inl (SqL.of eLL), r, _, rfl, hR5, by rw [hylen]; omega, fun H6 k k0 kl hR6 sb6 => ?_⟩
      rw [hylen] at kl
      have eLL6 := sb6 _ _ nLL eLL
      have sb16 := sb_trans sb15 sb6
      have ek : k = ((k.toNat : Nat) : Int) := by omega
      obtain ⟨lk, hlk⟩ : ∃ lk, ys[k.toNat]? = some lk := ⟨_, List.getElem?_eq_getElem (by omega)⟩
      have hlkA : atI (ys.map V.str) k = some (.str lk) := by
        rw [ek]
        exact atI_nat (by rw [List.getElem?_map, hlk]; rfl)
      have hlkm := List.mem_of_getElem? hlk
      obtain ⟨lkl, lkw⟩ := hs2 lk hlkm
      have lkw := lkw wok
      have hall : ∀ p ∈ ys, WOk p := fun p hp => (hs2 p hp).2 wok
      have hlkW := wt_mem hlkm
      refine ⟨_, rfl, _, _, rfl, rfl, _, rfl, if2d (fun w5 => ?_) (fun w5 => ?_)⟩
      · refine ⟨⟨_, rfl⟩, ?_⟩
        refine ⟨_, rfl, _, rfl, k, rfl, LL, _, rfl, SqL.of eLL6, fun A0 hA0 => ?_⟩
        rw [cutV_str]
        have nA := hR6.ne hA0
        have s7 := same_new (o := .lst ((cutL ys none (some k)).map V.str)) hA0
        have eA7 : upd H6 A0 (.lst ((cutL ys none (some k)).map V.str)) A0 = some (.lst ((cutL ys none (some k)).map V.str)) := upd_same
        have eLL7 := s7 _ _ eLL6
        have hR7 := hR6.but s7
        have sb17 := sb_trans sb16 (sb_of s7)
        revert eA7 eLL7 hR7 sb17
        generalize upd H6 A0 (.lst ((cutL ys none (some k)).map V.str)) = H7
        intro eA7 eLL7 hR7 sb17
        refine ⟨_, rfl, _, rfl, LL, _, k, .str lk, rfl, rfl, SqL.of eLL7, hlkA, (by show 1 ≤ sizeLine; decide), fun B0 hB0 => ?_⟩
        have nB := hR7.ne hB0
        have s8 := same_new (o := .lst [.str lk]) hB0
        have eB8 : upd H7 B0 (.lst [.str lk]) B0 = some (.lst [.str lk]) := upd_same
        have eLL8 := s8 _ _ eLL7
        have eA8 := s8 _ _ eA7
        have hR8 := hR7.but s8
        have sb18 := sb_trans sb17 (sb_of s8)
        revert eB8 eLL8 eA8 hR8 sb18
        generalize upd H7 B0 (.lst [.str lk]) = H8
        intro eB8 eLL8 eA8 hR8 sb18
        refine ⟨(by show 3 ≤ sizeLine; decide), fun C0 hC0 => ?_⟩
        have nC := hR8.ne hC0
        have s9 := same_new (o := .lst [.int 0, .int 2, .int 41]) hC0
        have eC9 : upd H8 C0 (.lst [.int 0, .int 2, .int 41]) C0 = some (.lst [.int 0, .int 2, .int 41]) := upd_same
        have eLL9 := s9 _ _ eLL8
        have eA9 := s9 _ _ eA8
        have eB9 := s9 _ _ eB8
        have hR9 := hR8.but s9
        have sb19 := sb_trans sb18 (sb_of s9)
        revert eC9 eB9 eLL9 eA9 hR9 sb19
        generalize upd H8 C0 (.lst [.int 0, .int 2, .int 41]) = H9
        intro eC9 eLL9 eA9 eB9 hR9 sb19
        refine ⟨_, rfl, r, 3, rfl, hR9, by decide, fun Ha m m0 m3 hRa sba => ?_⟩
        obtain ⟨mm, hmm, mm0, mm41⟩ : ∃ mm : Nat, atI [V.int 0, V.int 2, V.int 41] m = some (.int (mm : Int)) ∧ 0 ≤ mm ∧ mm ≤ 41 := by
          rcases (by omega : m = 0 ∨ m = 1 ∨ m = 2) with rfl | rfl | rfl
          · exact ⟨0, rfl, by decide, by decide⟩
          · exact ⟨2, rfl, by decide, by decide⟩
          · exact ⟨41, rfl, by decide, by decide⟩
        have eLLa := sba _ _ nLL eLL9
        have eAa := sba _ _ nA eA9
        have eBa := sba _ _ nB eB9
        have eCa := sba _ _ nC eC9
        have sb1a := sb_trans sb19 sba
        refine ⟨C0, _, m, .int (mm : Int), rfl, rfl, SqL.of eCa, hmm, ?_⟩
        refine ⟨B0, (mm : Int), [.str lk], rfl, rfl, eBa, by omega, by omega, by rw [Int.toNat_natCast]; show 1 * mm ≤ sizeLine; omega, fun D0 hD0 => ?_⟩
        rw [Int.toNat_natCast, rep_flat, show List.replicate mm (V.str lk) = (List.replicate mm lk).map V.str by rw [List.map_replicate]]
        have sc := same_new (o := .lst ((List.replicate mm lk).map V.str)) hD0
        have wrep := wt_rep lk mm
        have wcut := wt_cut ys none (some k)
        have wcut2 := wt_cut ys (some (k + 1)) none
        have hmul : mm * (lk.length + 1) ≤ 41 * (x.length + 1) := Nat.mul_le_mul mm41 (by omega)
        have l1 := wt_len (cutL ys none (some k))
        have l2 := wt_len (List.replicate mm lk)
        have l3 := wt_len (cutL ys (some (k + 1)) none)
        refine ⟨A0, D0, _, _, rfl, rfl, sc _ _ eAa, upd_same, by rw [List.length_map, List.length_map]; omega, fun E0 hE0 => ?_⟩
        rw [← List.map_append]
        have sd := same_new (o := .lst ((cutL ys none (some k) ++ List.replicate mm lk).map V.str)) hE0
        have eEd : upd (upd Ha D0 (.lst ((List.replicate mm lk).map V.str))) E0 (.lst ((cutL ys none (some k) ++ List.replicate mm lk).map V.str)) E0 = some (.lst ((cutL ys none (some k) ++ List.replicate mm lk).map V.str)) := upd_same
        have scd := sc.trans sd
        have eLLd := scd _ _ eLLa
        have hRd := hRa.but scd
        have sb1d := sb_trans sb1a (sb_of scd)
        revert eEd eLLd hRd sb1d
        generalize upd (upd Ha D0 (.lst ((List.replicate mm lk).map V.str))) E0 (.lst ((cutL ys none (some k) ++ List.replicate mm lk).map V.str)) = Hd
        intro eEd eLLd hRd sb1d
        refine ⟨_, rfl, _, rfl, _, _, rfl, rfl, k + 1, rfl, LL, _, rfl, SqL.of eLLd, fun F0 hF0 => ?_⟩
        rw [cutV_str]
        have sf := same_new (o := .lst ((cutL ys (some (k + 1)) none).map V.str)) hF0
        refine ⟨E0, F0, _, _, rfl, rfl, sf _ _ eEd, upd_same, by rw [List.length_map, List.length_map, List.length_append]; omega, fun G0 hG0 => ?_⟩
        rw [← List.map_append]
        have sg2 := same_new (o := .lst ((cutL ys none (some k) ++ List.replicate mm lk ++ cutL ys (some (k + 1)) none).map V.str)) hG0
        have wtot : Wt (cutL ys none (some k) ++ List.replicate mm lk ++ cutL ys (some (k + 1)) none) ≤ 43 * (x.length + 1) := by
          rw [wt_app, wt_app]
          omega
        obtain ⟨j1, j2⟩ := join_wt (y := nlS) tl_nl (by decide) (ys := cutL ys none (some k) ++ List.replicate mm lk ++ cutL ys (some (k + 1)) none)
        refine ⟨nlS, G0, _, rfl, rfl, .inl (SqL.of upd_same), join_fit tl_nl (by omega), ?_⟩
        refine q _ _ (Nat.le_trans j1 wtot) (j2 fun p hp => ?_) (hRd.but (sf.trans sg2)) (sb_trans sb1d (sb_of (sf.trans sg2)))
        rcases List.mem_append.mp hp with hp | hp
        · rcases List.mem_append.mp hp with hp | hp
          · exact hall p (cut_mem hp)
          · rw [(List.mem_replicate.mp hp).2]
            exact lkw
        · exact hall p (cut_mem hp)
      · have w5 : ¬ way < 5 := w5
        refine ⟨_, rfl, _, rfl, LL, _, k, .str lk, rfl, rfl, SqL.of eLL6, hlkA, ⟨_, rfl⟩, _, _, rfl, rfl, by decide +kernel, by omega, ?_⟩
        have hWw := wt_split (x := lk) tl_sp (by decide)
        obtain ⟨hw1, hw2⟩ := split_len (x := lk) tl_sp (by decide)
        show rNewStrs (Txt.split lk spS) H6 _
        intro WW hWW
        have nWW := hR6.ne hWW
        have s7 := same_new (o := .lst ((Txt.split lk spS).map V.str)) hWW
        have eWW : upd H6 WW (.lst ((Txt.split lk spS).map V.str)) WW = some (.lst ((Txt.split lk spS).map V.str)) := upd_same
        have eLL7 := s7 _ _ eLL6
        have hR7 := hR6.but s7
        have sb17 := sb_trans sb16 (sb_of s7)
        revert hWw hw1 hw2 eWW eLL7 hR7 sb17
        generalize upd H6 WW (.lst ((Txt.split lk spS).map V.str)) = H7
        generalize Txt.split lk spS = ws
        intro hWw hw1 hw2 eWW eLL7 hR7 sb17
        have hwsl : 1 ≤ ws.length := by
          cases ws with
          | nil => have : Wt [] = 0 := rfl; omega
          | cons a b => exact Nat.succ_le_succ (Nat.zero_le _)
        have hwlen : (ws.map V.str).length = ws.length := List.length_map ..
        refine ⟨_, rfl, _, rfl, WW, _, rfl, .inl (SqL.of eWW), r, _, rfl, hR7, by rw [hwlen]; omega, fun H8 j j0 jl hR8 sb8 => ?_⟩
        rw [hwlen] at jl
        have eWW8 := sb8 _ _ nWW eWW
        have eLL8 := sb8 _ _ nLL eLL7
        have sb18 := sb_trans sb17 sb8
        have ej : j = ((j.toNat : Nat) : Int) := by omega
        obtain ⟨wj, hwj⟩ : ∃ wj, ws[j.toNat]? = some wj := ⟨_, List.getElem?_eq_getElem (by omega)⟩
        have hwjA : atI (ws.map V.str) j = some (.str wj) := by
          rw [ej]
          exact atI_nat (by rw [List.getElem?_map, hwj]; rfl)
        have hwjm := List.mem_of_getElem? hwj
        have hwall : ∀ p ∈ ws, WOk p := fun p hp => (hw2 p hp).2 lkw
        have hwjW := wt_mem hwjm
        refine ⟨(by show 12 ≤ sizeLine; decide), fun O0 hO0 => ?_⟩
        have nO := hR8.ne hO0
        have hR9 := hR8.but (same_new (o := .lst ([Str.ofString "", Str.ofString "0", Str.ofString "00", Str.ofString "07", Str.ofString "999", Str.ofString "1000", Str.ofString "-1", Str.ofString "x", Str.ofString "63", Str.ofString "64", Str.ofString "15", Str.ofString "16"].map V.str)) hO0)
        have s9 := same_new (o := .lst ([Str.ofString "", Str.ofString "0", Str.ofString "00", Str.ofString "07", Str.ofString "999", Str.ofString "1000", Str.ofString "-1", Str.ofString "x", Str.ofString "63", Str.ofString "64", Str.ofString "15", Str.ofString "16"].map V.str)) hO0
        refine ⟨_, rfl, r, 12, rfl, hR9, by decide, fun Ha o o0 ol hRa sba => ?_⟩
        have eOa := sba _ _ nO upd_same
        have eWWa := sba _ _ nWW (s9 _ _ eWW8)
        have eLLa := sba _ _ nLL (s9 _ _ eLL8)
        have sb1a := sb_trans sb18 (sb_trans (sb_of s9) sba)
        obtain ⟨od, hod, odl, odok⟩ : ∃ od : Str, atI ([Str.ofString "", Str.ofString "0", Str.ofString "00", Str.ofString "07", Str.ofString "999", Str.ofString "1000", Str.ofString "-1", Str.ofString "x", Str.ofString "63", Str.ofString "64", Str.ofString "15", Str.ofString "16"].map V.str) o = some (.str od) ∧ od.length ≤ 4 ∧ WOk od := by
          have key : ∀ z ∈ [Str.ofString "", Str.ofString "0", Str.ofString "00", Str.ofString "07", Str.ofString "999", Str.ofString "1000", Str.ofString "-1", Str.ofString "x", Str.ofString "63", Str.ofString "64", Str.ofString "15", Str.ofString "16"], z.length ≤ 4 ∧ (z.cps.toList.all fun c => decide (c < 256)) = true := by decide +kernel
          have eo : o = ((o.toNat : Nat) : Int) := by omega
          have hl : o.toNat < [Str.ofString "", Str.ofString "0", Str.ofString "00", Str.ofString "07", Str.ofString "999", Str.ofString "1000", Str.ofString "-1", Str.ofString "x", Str.ofString "63", Str.ofString "64", Str.ofString "15", Str.ofString "16"].length := by
            show o.toNat < 12
            omega
          obtain ⟨k1, k2⟩ := key _ (List.getElem_mem hl)
          refine ⟨_, ?_, k1, fun c hc => of_decide_eq_true (List.all_eq_true.mp k2 c hc)⟩
          exact at_of eo (by rw [List.getElem?_map, List.getElem?_eq_getElem hl]; rfl)
        refine ⟨O0, _, o, .str od, rfl, rfl, SqL.of eOa, hod, ?_⟩
        refine ⟨_, rfl, _, rfl, j, rfl, WW, _, rfl, SqL.of eWWa, fun A0 hA0 => ?_⟩
        rw [cutV_str]
        have sb1 := same_new (o := .lst ((cutL ws none (some j)).map V.str)) hA0
        have eAb : upd Ha A0 (.lst ((cutL ws none (some j)).map V.str)) A0 = some (.lst ((cutL ws none (some j)).map V.str)) := upd_same
        have eWWb := sb1 _ _ eWWa
        have eLLb := sb1 _ _ eLLa
        have hRb := hRa.but sb1
        have sb1b := sb_trans sb1a (sb_of sb1)
        revert eAb eWWb eLLb hRb sb1b
        generalize upd Ha A0 (.lst ((cutL ws none (some j)).map V.str)) = Hb
        intro eAb eWWb eLLb hRb sb1b
        refine ⟨Nat.zero_le _, fun L0 hL0 => ?_⟩
        have t0 := same_new (o := .lst []) hL0
        have hL0e : upd Hb L0 (.lst []) L0 = some (.lst []) := upd_same
        revert t0 hL0e
        generalize upd Hb L0 (.lst []) = Hc
        intro t0 hL0e
        refine ⟨_, rfl, _, rfl, WW, _, j, .str wj, rfl, rfl, SqL.of (t0 _ _ eWWb), hwjA, ?_⟩
        refine ⟨_, rfl, _, rfl, WW, _, j, .str wj, rfl, rfl, SqL.of (t0 _ _ eWWb), hwjA, (by show 2 ≤ sizeLine; decide), fun L1 hL1 => ?_⟩
        have t1 := same_new (o := .lst [.str wj, .str wj]) hL1
        have hL1e : upd Hc L1 (.lst [.str wj, .str wj]) L1 = some (.lst [.str wj, .str wj]) := upd_same
        have t01 := t0.trans t1
        have hL0e1 := t1 _ _ hL0e
        revert t01 hL1e hL0e1
        generalize upd Hc L1 (.lst [.str wj, .str wj]) = Hd
        intro hL1e t01 hL0e1
        refine ⟨_, rfl, (by show 1 ≤ sizeLine; decide), fun L3 hL3 => ?_⟩
        have t2 := same_new (o := .lst [.str od]) hL3
        have hL3e : upd Hd L3 (.lst [.str od]) L3 = some (.lst [.str od]) := upd_same
        have t02 := t01.trans t2
        have hL0e2 := t2 _ _ hL0e1
        have hL1e2 := t2 _ _ hL1e
        revert t02 hL3e hL0e2 hL1e2
        generalize upd Hd L3 (.lst [.str od]) = He
        intro hL3e t02 hL0e2 hL1e2
        refine ⟨(by show 3 ≤ sizeLine; decide), fun LZ hLZ => ?_⟩
        have t3 := same_new (o := .lst [.ref L0, .ref L1, .ref L3]) hLZ
        have hLZe : upd He LZ (.lst [.ref L0, .ref L1, .ref L3]) LZ = some (.lst [.ref L0, .ref L1, .ref L3]) := upd_same
        have t03 := t02.trans t3
        obtain ⟨Lx, zs, hLx, eLx, hzW, hzok⟩ : ∃ (Lx : Addr) (zs : List Str), atI [V.ref L0, V.ref L1, V.ref L3] (way - 5) = some (.ref Lx) ∧ upd He LZ (.lst [.ref L0, .ref L1, .ref L3]) Lx = some (.lst (zs.map V.str)) ∧ Wt zs ≤ 2 * (wj.length + 1) + 5 ∧ ∀ p ∈ zs, WOk p := by
          have wjw := hwall wj hwjm
          rcases (by omega : way = 5 ∨ way = 6 ∨ way = 7) with rfl | rfl | rfl
          · exact ⟨L0, [], rfl, t3 _ _ hL0e2, Nat.zero_le _, fun p hp => by cases hp⟩
          · refine ⟨L1, [wj, wj], rfl, t3 _ _ hL1e2, ?_, fun p hp => ?_⟩
            · rw [wt_cons, wt_cons, show Wt [] = 0 from rfl]
              omega
            · simp only [List.mem_cons, List.not_mem_nil, or_false, or_self] at hp
              rw [hp]
              exact wjw
          · refine ⟨L3, [od], rfl, t3 _ _ hL3e, ?_, fun p hp => ?_⟩
            · rw [wt_cons, show Wt [] = 0 from rfl]
              omega
            · rw [List.mem_singleton.mp hp]
              exact odok
        have eA3 := t03 _ _ eAb
        have eWW3 := t03 _ _ eWWb
        have eLL3 := t03 _ _ eLLb
        have hR3' := hRb.but t03
        have sb13' := sb_trans sb1b (sb_of t03)
        revert hLZe t03 eLx eA3 eWW3 eLL3 hR3' sb13'
        generalize upd He LZ (.lst [.ref L0, .ref L1, .ref L3]) = Hf
        intro hLZe t03 eLx eA3 eWW3 eLL3 hR3' sb13'
        have lw1 := wt_len (cutL ws none (some j))
        have lw2 := wt_len zs
        have lw3 := wt_len (cutL ws (some (j + 1)) none)
        have cw1 := wt_cut ws none (some j)
        have cw3 := wt_cut ws (some (j + 1)) none
        refine ⟨_, rfl, _, _, rfl, rfl, LZ, _, way - 5, .ref Lx, rfl, rfl, SqL.of hLZe, hLx, ?_⟩
        refine ⟨A0, Lx, _, _, rfl, rfl, eA3, eLx, by rw [List.length_map, List.length_map]; omega, fun E0 hE0 => ?_⟩
        rw [← List.map_append]
        have u1 := same_new (o := .lst ((cutL ws none (some j) ++ zs).map V.str)) hE0
        have eE : upd Hf E0 (.lst ((cutL ws none (some j) ++ zs).map V.str)) E0 = some (.lst ((cutL ws none (some j) ++ zs).map V.str)) := upd_same
        have eWW4 := u1 _ _ eWW3
        have eLL4 := u1 _ _ eLL3
        have hR4' := hR3'.but u1
        have sb14' := sb_trans sb13' (sb_of u1)
        revert eE eWW4 eLL4 hR4' sb14'
        generalize upd Hf E0 (.lst ((cutL ws none (some j) ++ zs).map V.str)) = Hg
        intro eE eWW4 eLL4 hR4' sb14'
        refine ⟨_, rfl, _, rfl, _, _, rfl, rfl, j + 1, rfl, WW, _, rfl, SqL.of eWW4, fun F0 hF0 => ?_⟩
        rw [cutV_str]
        have u2 := same_new (o := .lst ((cutL ws (some (j + 1)) none).map V.str)) hF0
        refine ⟨E0, F0, _, _, rfl, rfl, u2 _ _ eE, upd_same, by rw [List.length_map, List.length_map, List.length_append]; omega, fun G0 hG0 => ?_⟩
        rw [← List.map_append]
        have wtW : Wt (cutL ws none (some j) ++ zs ++ cutL ws (some (j + 1)) none) ≤ 4 * (lk.length + 1) + 5 := by
          rw [wt_app, wt_app]
          omega
        have okW : ∀ p ∈ cutL ws none (some j) ++ zs ++ cutL ws (some (j + 1)) none, WOk p := fun p hp => by
          rcases List.mem_append.mp hp with hp | hp
          · rcases List.mem_append.mp hp with hp | hp
            · exact hwall p (cut_mem hp)
            · exact hzok p hp
          · exact hwall p (cut_mem hp)
        have u3 := u2.trans (same_new (o := .lst ((cutL ws none (some j) ++ zs ++ cutL ws (some (j + 1)) none).map V.str)) hG0)
        have eG : upd (upd Hg F0 (.lst ((cutL ws (some (j + 1)) none).map V.str))) G0 (.lst ((cutL ws none (some j) ++ zs ++ cutL ws (some (j + 1)) none).map V.str)) G0 = some (.lst ((cutL ws none (some j) ++ zs ++ cutL ws (some (j + 1)) none).map V.str)) := upd_same
        have eLL5 := u3 _ _ eLL4
        have hR5' := hR4'.but u3
        have sb15' := sb_trans sb14' (sb_of u3)
        revert eG eLL5 hR5' sb15' wtW okW
        generalize upd (upd Hg F0 (.lst ((cutL ws (some (j + 1)) none).map V.str))) G0 (.lst ((cutL ws none (some j) ++ zs ++ cutL ws (some (j + 1)) none).map V.str)) = Hh
        generalize cutL ws none (some j) ++ zs ++ cutL ws (some (j + 1)) none = vs
        intro wtW okW eG eLL5 hR5' sb15'
        refine ⟨⟨_, rfl⟩, ?_⟩
        refine ⟨_, rfl, _, rfl, k, rfl, LL, _, rfl, SqL.of eLL5, fun A1 hA1 => ?_⟩
        rw [cutV_str]
        have v1 := same_new (o := .lst ((cutL ys none (some k)).map V.str)) hA1
        have eA1 : upd Hh A1 (.lst ((cutL ys none (some k)).map V.str)) A1 = some (.lst ((cutL ys none (some k)).map V.str)) := upd_same
        have eG1 := v1 _ _ eG
        have eLL6' := v1 _ _ eLL5
        have hR6' := hR5'.but v1
        have sb16' := sb_trans sb15' (sb_of v1)
        revert eA1 eG1 eLL6' hR6' sb16'
        generalize upd Hh A1 (.lst ((cutL ys none (some k)).map V.str)) = Hi
        intro eA1 eG1 eLL6' hR6' sb16'
        obtain ⟨j1, j2⟩ := join_wt (y := spS) tl_sp (by decide) (ys := vs)
        refine ⟨⟨_, rfl⟩, _, rfl, spS, G0, vs, rfl, rfl, .inl (SqL.of eG1), join_fit tl_sp (by omega), (by show 1 ≤ sizeLine; decide), fun B1 hB1 => ?_⟩
        have j2 := j2 okW
        revert j1 j2
        generalize Txt.join spS vs = nl
        intro j1 j2
        have v2 := same_new (o := .lst [.str nl]) hB1
        have yl1 := wt_len (cutL ys none (some k))
        have yl3 := wt_len (cutL ys (some (k + 1)) none)
        have yc1 := wt_cut ys none (some k)
        have yc3 := wt_cut ys (some (k + 1)) none
        refine ⟨A1, B1, _, [.str nl], rfl, rfl, v2 _ _ eA1, upd_same, by rw [List.length_map]; show _ + 1 ≤ _; omega, fun C1 hC1 => ?_⟩
        rw [show (cutL ys none (some k)).map V.str ++ [V.str nl] = (cutL ys none (some k) ++ [nl]).map V.str by rw [List.map_append]; rfl]
        have v3 := v2.trans (same_new (o := .lst ((cutL ys none (some k) ++ [nl]).map V.str)) hC1)
        have eC1 : upd (upd Hi B1 (.lst [.str nl])) C1 (.lst ((cutL ys none (some k) ++ [nl]).map V.str)) C1 = some (.lst ((cutL ys none (some k) ++ [nl]).map V.str)) := upd_same
        have eLL7' := v3 _ _ eLL6'
        have hR7' := hR6'.but v3
        have sb17' := sb_trans sb16' (sb_of v3)
        revert eC1 eLL7' hR7' sb17'
        generalize upd (upd Hi B1 (.lst [.str nl])) C1 (.lst ((cutL ys none (some k) ++ [nl]).map V.str)) = Hj
        intro eC1 eLL7' hR7' sb17'
        refine ⟨_, rfl, _, rfl, _, _, rfl, rfl, k + 1, rfl, LL, _, rfl, SqL.of eLL7', fun D1 hD1 => ?_⟩
        rw [cutV_str]
        have v4 := same_new (o := .lst ((cutL ys (some (k + 1)) none).map V.str)) hD1
        refine ⟨C1, D1, _, _, rfl, rfl, v4 _ _ eC1, upd_same, by rw [List.length_map, List.length_map, List.length_append]; show _ + 1 + _ ≤ _; omega, fun E1 hE1 => ?_⟩
        rw [← List.map_append]
        have v5 := v4.trans (same_new (o := .lst ((cutL ys none (some k) ++ [nl] ++ cutL ys (some (k + 1)) none).map V.str)) hE1)
        have wtot : Wt (cutL ys none (some k) ++ [nl] ++ cutL ys (some (k + 1)) none) ≤ 43 * (x.length + 1) := by
          rw [wt_app, wt_app, wt_cons, show Wt [] = 0 from rfl]
          omega
        obtain ⟨k1, k2⟩ := join_wt (y := nlS) tl_nl (by decide) (ys := cutL ys none (some k) ++ [nl] ++ cutL ys (some (k + 1)) none)
        refine ⟨nlS, E1, _, rfl, rfl, .inl (SqL.of upd_same), join_fit tl_nl (by omega), ?_⟩
        refine q _ _ (Nat.le_trans k1 wtot) (k2 fun p hp => ?_) (hR7'.but v5) (sb_trans sb17' (sb_of v5))
        rcases List.mem_append.mp hp with hp | hp
        · rcases List.mem_append.mp hp with hp | hp
          · exact hall p (cut_mem hp)
          · rw [List.mem_singleton.mp hp]
            exact j2
        · exact hall p (cut_mem hp)
end
end Ag

namespace Ag
open PySem PySem.Spec PyProof.Rows L2
/-! ### the law's mathematics -/
theorem okD_out {d : Disk} {x : Str} : ∀ {o : Out}, Due d x o → okD 4 (dOut o)
  | .text i, _ => okD_tuple (by show 2 ≤ 1000000; decide) fun z hz => by
    simp only [List.mem_cons, List.not_mem_nil, or_false] at hz
    rcases hz with rfl | rfl
    · exact okD_str _ _
    · exact okD_int _ _
  | .ask i, _ => okD_tuple (by show 2 ≤ 1000000; decide) fun z hz => by
    simp only [List.mem_cons, List.not_mem_nil, or_false] at hz
    rcases hz with rfl | rfl
    · exact okD_str _ _
    · exact okD_int _ _
  | .read l, h => okD_tuple (by show 2 ≤ 1000000; decide) fun z hz => by
    have hl : l.length ≤ 40 := by
      rcases Nat.lt_or_ge 40 l.length with h40 | h40
      · have := (h.2 40 _ (List.getElem?_eq_getElem h40)).1
        omega
      · exact h40
    simp only [List.mem_cons, List.not_mem_nil, or_false] at hz
    rcases hz with rfl | rfl
    · exact okD_str _ _
    · refine okD_list (by rw [List.length_map]; omega) fun e he => ?_
      obtain ⟨k, _, rfl⟩ := List.mem_map.mp he
      exact okD_tuple (by show 3 ≤ 1000000; decide) (okD_ints _ _)
def bnd : Nat → Nat
  | 0 => 144
  | k + 1 => 43 * (bnd k + 1)
theorem textS_len12 {l : List Ask} (h : ∀ q ∈ l, ∀ n ∈ askNs q, Few n) (hl : l.length ≤ 12) : (textS l).length ≤ 144 := by
  unfold textS
  rw [TL.len_tl, TL.join_eq, TL.tl_join, tl_nlS]
  have := joinL_len [10] 11 ((l.map rowS).map TL.tl) fun p hp => by
    obtain ⟨x, hx, rfl⟩ := List.mem_map.mp hp
    obtain ⟨q, hq, rfl⟩ := List.mem_map.mp hx
    rw [← TL.len_tl]
    exact (rowS_len (h q hq)).2
  rw [List.length_map, List.length_map] at this
  have e : ([10] : List Nat).length = 1 := rfl
  rw [e] at this
  omega
theorem numS_wok {n : Int} (h : Few n) : WOk (numS n) := fun c hc => by
  have := numS_sign h hc
  omega
theorem textS_wok {l : List Ask} (h : ∀ q ∈ l, ∀ n ∈ askNs q, Few n) : WOk (textS l) := by
  refine (join_wt tl_nl (by decide)).2 fun p hp => ?_
  obtain ⟨k, hk, rfl⟩ := List.mem_map.mp hp
  refine (join_wt tl_sp (by decide)).2 fun p hp => ?_
  obtain ⟨n, hn, rfl⟩ := List.mem_map.mp hp
  exact numS_wok (h k hk n hn)
def okOdd (z : Str) : Bool := decide (z.length ≤ 300) && z.cps.toList.all fun c => decide (c < 256)
theorem okOdd_is {z : Str} (h : okOdd z = true) : z.length ≤ 300 ∧ WOk z := by
  unfold okOdd at h
  simp only [Bool.and_eq_true, decide_eq_true_eq, List.all_eq_true] at h
  exact ⟨h.1, fun c hc => h.2 c hc⟩
def odds0 : List Str := [Str.ofString "", Str.ofString " ", Str.ofString "\n", Str.ofString "0 0 0", Str.ofString "0 0 0\n", Str.ofString "0 0", Str.ofString "0 0 0 0", Str.ofString "00 0 0", Str.ofString "1000 0 0", Str.ofString "0  0 0", Str.ofString "0 0 0\n\n0 0 0"]
theorem odds0_ok : ∀ z ∈ odds0, okOdd z = true := by decide +kernel
def odd41 : Str := Txt.join nlS (List.replicate 41 (Str.ofString "0 0 0"))
theorem odd41_ok : odd41.length ≤ 300 ∧ WOk odd41 := by
  obtain ⟨h1, h2⟩ := join_wt (y := nlS) tl_nl (by decide) (ys := List.replicate 41 (Str.ofString "0 0 0"))
  rw [wt_rep] at h1
  have e : (Str.ofString "0 0 0").length = 5 := by decide +kernel
  rw [e] at h1
  refine ⟨by unfold odd41; omega, h2 fun p hp => ?_⟩
  rw [(List.mem_replicate.mp hp).2]
  exact (okOdd_is (odds0_ok _ (by unfold odds0; simp))).2
end Ag

namespace Ag
open PySem PySem.Spec PyProof.Rows L2
/-! ### the law -/
abbrev s_law : Stmt := top 31
def sp_law (K : PySem.W.Frag) : Sp := fun vs H Q _ => ∃ (a : Addr) (ns : List Int), vs = [.ref a] ∧ ScrAt K H a ns ∧ ∀ H', Q (.bl true) H'
theorem sc_law : FnScope ["_law_script", "_law_row", "_law_odd", "_law_turn", "_law_disk_here", "_law_text_here", "_law_change", "_law_some"] ["_law_script"] (defScope s_law) := ⟨rfl, rfl, rfl, by decide +kernel, rfl, by decide +kernel, by decide +kernel⟩
section
variable {P : Program} {w : World} {K : PySem.W.Frag} {mg : Str → Option Value} {base : Heap}
set_option maxHeartbeats 16000000 in
theorem ok_law {f fT fD fA fX fS fR fU fL : Addr} {fd fdT fdD fdA fdX fdS fdR fdU fdL : FuncData} (F : Fun K "law" "law" s_law f fd)
    (G__law_taken : FnOk P w K mg base CX0 1 fT fdT ["_law_row", "_law_many"] (sp_l_taken K)) (C__law_taken : Cal K mg "_law_taken" fT fdT ["_law_row", "_law_many"])
    (G__law_disk : FnOk P w K mg base CX0 2 fD fdD ["_law_row"] (sp_l_disk K)) (C__law_disk : Cal K mg "_law_disk" fD fdD ["_law_row"])
    (G__law_asks : FnOk P w K mg base CX0 2 fA fdA ["_law_row", "_law_disk_here", "_law_most"] (sp_l_asks K)) (C__law_asks : Cal K mg "_law_asks" fA fdA ["_law_row", "_law_disk_here", "_law_most"])
    (G__law_text : FnOk P w K mg base CX0 1 fX fdX ["_law_asks_here"] (sp_l_text K)) (C__law_text : Cal K mg "_law_text" fX fdX ["_law_asks_here"])
    (G__law_spoilt : FnOk P w K mg base CX0 2 fS fdS ["_law_row", "_law_text_here"] (sp_l_spoilt K)) (C__law_spoilt : Cal K mg "_law_spoilt" fS fdS ["_law_row", "_law_text_here"])
    (G__law_reading : FnOk P w K mg base CX0 7 fR fdR ["_law_disk_here", "_law_text_here"] (sp_l_reading K)) (C__law_reading : Cal K mg "_law_reading" fR fdR ["_law_disk_here", "_law_text_here"])
    (G__law_due : FnOk P w K mg base CX0 2 fU fdU ["_law_disk_here", "_law_text_here"] (sp_l_due K)) (C__law_due : Cal K mg "_law_due" fU fdU ["_law_disk_here", "_law_text_here"])
    (G__law_alike : FnOk P w K mg base CX0 5 fL fdL ["_law_found", "_law_due_here"] (sp_l_alike 4 K)) (C__law_alike : Cal K mg "_law_alike" fL fdL ["_law_found", "_law_due_here"])
    (mb_range : mg "range" = none) : FnOk P w K mg base CX0 8 f fd ["_law_script"] (sp_law K) := by
  refine F.ok sc_law (fun vs H Q E h => ?_) (fun cdv A outer s H vs Q E hr h => ?_)
  · obtain ⟨a, ns, rfl, _⟩ := h
    rfl
  · obtain ⟨a, ns, rfl, hS, q⟩ := h
    have nd := sc_law.nd
    have hr__law_taken : Room 1 _ := hr.mono (by decide)
    have hr__law_disk : Room 2 _ := hr.mono (by decide)
    have hr__law_asks : Room 2 _ := hr.mono (by decide)
    have hr__law_text : Room 1 _ := hr.mono (by decide)
    have hr__law_spoilt : Room 2 _ := hr.mono (by decide)
    have hr__law_reading : Room 7 _ := hr.mono (by decide)
    have hr__law_due : Room 2 _ := hr.mono (by decide)
    have hr__law_alike : Room 5 _ := hr.mono (by decide)
    have hsl := sizeLine_eq
    refine ⟨_, (pss_cons (ps_set (i := 1) nd rfl (.inl rfl) (pe_lst (pa_cons (pv 0) (pa_cons pe_int (pa_cons pe_int pa_nil)))))
      (pss_cons (ps_set (i := 2) nd rfl (.inl rfl) (pe_lst (pa_cons pe_str (pa_cons pe_str (pa_cons pe_str (pa_cons pe_str (pa_cons pe_str (pa_cons pe_str (pa_cons pe_str (pa_cons pe_str (pa_cons pe_str (pa_cons pe_str (pa_cons pe_str pa_nil)))))))))))))
      (pss_cons (ps_expr (pe_bm PySem.F.plainAttrs_list PySem.F.slot_list_append PySem.F.type_list_append mt_append (pv 2) (pa_cons (pe_join pe_str (pe_op op_rep (pe_lst (pa_cons pe_str pa_nil)) pe_int)) pa_nil)))
      (pss_cons (ps_for PassesOwn.never rfl (pi_range1 rfl mb_range (pa_cons pe_int pa_nil)) (pg_name (i := 3) nd rfl (.inl rfl))
        (pss_cons (ps_set (i := 4) nd rfl (.inl rfl) (pe_call G__law_disk hr__law_disk rfl C__law_disk.m C__law_disk.k C__law_disk.b .nil pass0 (pa_cons (pv 1) pa_nil)))
      (pss_cons (ps_set (i := 5) nd rfl (.inl rfl) (pe_call G__law_text hr__law_text rfl C__law_text.m C__law_text.k C__law_text.b .nil pass0 (pa_cons (pe_call G__law_asks hr__law_asks rfl C__law_asks.m C__law_asks.k C__law_asks.b .nil pass0 (pa_cons (pv 1) (pa_cons (pv 4) (pa_cons pe_int pa_nil)))) pa_nil)))
      (pss_cons (ps_for PassesOwn.never rfl (pi_range1 rfl mb_range (pa_cons (pe_call G__law_taken hr__law_taken rfl C__law_taken.m C__law_taken.k C__law_taken.b .nil pass0 (pa_cons (pv 1) (pa_cons pe_int pa_nil))) pa_nil)) (pg_name (i := 6) nd rfl (.inl rfl))
        (pss_one (ps_set (i := 5) nd rfl (.inl rfl) (pe_call G__law_spoilt hr__law_spoilt rfl C__law_spoilt.m C__law_spoilt.k C__law_spoilt.b .nil pass0 (pa_cons (pv 1) (pa_cons (pv 5) pa_nil))))))
      (pss_one (ps_for PassesOwn.never rfl (pi_list (pe_lst (pa_cons (pv 5) (pa_cons (pe_ix (r := rIxL K) ix_list (pv 2) (pe_call G__law_taken hr__law_taken rfl C__law_taken.m C__law_taken.k C__law_taken.b .nil pass0 (pa_cons (pv 1) (pa_cons pe_int pa_nil))) (fun _ _ => rfl)) pa_nil)))) (pg_name (i := 7) nd rfl (.inl rfl))
        (pss_one (ps_if (pt_not (pt_val (pe_call G__law_alike hr__law_alike rfl C__law_alike.m C__law_alike.k C__law_alike.b .nil pass0 (pa_cons (pe_call G__law_reading hr__law_reading rfl C__law_reading.m C__law_reading.k C__law_reading.b .nil pass0 (pa_cons (pv 4) (pa_cons (pv 7) pa_nil))) (pa_cons (pe_call G__law_due hr__law_due rfl C__law_due.m C__law_due.k C__law_due.b .nil pass0 (pa_cons (pv 4) (pa_cons (pv 7) pa_nil))) pa_nil))))) (pss_one (ps_ret pe_bl)) pss_nil))))))))
      (pss_one (ps_ret pe_bl)))))), ?_⟩
    refine ⟨_, rfl, (by show 3 ≤ sizeLine; decide), fun r hr0 => ?_⟩
    have hR0 := row_start hS hr0
    refine ⟨(by show 11 ≤ sizeLine; decide), fun O hO0 => ?_⟩
    have nO : O ≠ r := hR0.ne hO0
    have s1 := same_new (o := .lst (odds0.map V.str)) hO0
    have eO1 : upd (upd H r (.lst [.ref a, .int 0, .int 0])) O (.lst (odds0.map V.str)) O = some (.lst (odds0.map V.str)) := upd_same
    have hR1 := hR0.but s1
    show gName 2 (V.ref O) [some (.ref a), some (.ref r), none, none, none, none, none, none] (upd (upd H r (.lst [.ref a, .int 0, .int 0])) O (.lst (odds0.map V.str))) _
    revert eO1 hR1
    generalize upd (upd H r (.lst [.ref a, .int 0, .int 0])) O (.lst (odds0.map V.str)) = H1
    intro eO1 hR1
    refine ⟨_, rfl, .inl ⟨rfl, _, SqL.of eO1⟩, ?_⟩
    refine ⟨⟨_, rfl⟩, (by show 1 ≤ sizeLine; decide), fun B0 hB0 => ?_⟩
    have s2 := same_new (o := .lst [.str (Str.ofString "0 0 0")]) hB0
    refine ⟨B0, 41, [.str (Str.ofString "0 0 0")], rfl, rfl, upd_same, by decide, by decide, (by show 1 * 41 ≤ sizeLine; decide), fun D0 hD0 => ?_⟩
    rw [rep_flat, show List.replicate (41 : Int).toNat (V.str (Str.ofString "0 0 0")) = (List.replicate 41 (Str.ofString "0 0 0")).map V.str by rw [List.map_replicate]; rfl]
    have s3 := s2.trans (same_new (o := .lst ((List.replicate 41 (Str.ofString "0 0 0")).map V.str)) hD0)
    have eO3 := s3 _ _ eO1
    have hR3 := hR1.but s3
    refine ⟨nlS, D0, _, rfl, rfl, .inl (SqL.of upd_same), by decide +kernel, ?_⟩
    revert eO3 hR3
    generalize upd (upd H1 B0 (.lst [.str (Str.ofString "0 0 0")])) D0 (.lst ((List.replicate 41 (Str.ofString "0 0 0")).map V.str)) = H3
    intro eO3 hR3
    refine ⟨O, _, .str odd41, rfl, rfl, eO3, by decide, ?_⟩
    rw [show odds0.map V.str ++ [V.str odd41] = (odds0 ++ [odd41]).map V.str by rw [List.map_append]; rfl]
    have eO4 : upd H3 O (.lst ((odds0 ++ [odd41]).map V.str)) O = some (.lst ((odds0 ++ [odd41]).map V.str)) := upd_same
    have hR4 : RowAt K (upd H3 O (.lst ((odds0 ++ [odd41]).map V.str))) r := hR3.put nO eO3
    have hods : ∀ z ∈ odds0 ++ [odd41], z.length ≤ 300 ∧ WOk z := fun z hz => by
      rcases List.mem_append.mp hz with h | h
      · exact okOdd_is (odds0_ok z h)
      · rw [List.mem_singleton.mp h]
        exact odd41_ok
    have hodl : (odds0 ++ [odd41]).length = 12 := rfl
    revert eO4 hR4 hods hodl
    generalize upd H3 O (.lst ((odds0 ++ [odd41]).map V.str)) = H4
    generalize odds0 ++ [odd41] = ods
    intro eO4 hR4 hods hodl
    refine ⟨5, rfl, by decide, by decide, ?_⟩
    refine for_range (lo := 0) (n := 5) (fun i σ H' => RowAt K H' r ∧ H' O = some (.lst (ods.map V.str)) ∧ ∃ v3 v4 v5 v6 v7 : Option V, σ = [some (.ref a), some (.ref r), some (.ref O), v3, v4, v5, v6, v7]) ⟨hR4, eO4, none, none, none, none, none, rfl⟩ ?_ ?_
    · rintro i σ H0 hi ⟨hR, eO, v3, v4, v5, v6, v7, rfl⟩
      refine ⟨_, rfl, r, rfl, hR, fun H1 pd d g hR1 sb1 npd ed => ?_⟩
      have eO1 := sb1 _ _ nO eO
      have dpd1 : Dp K (wo H1 r) (.ref pd) (dDisk d) := dp_tints_of (.inl (.inl (by rw [wo_ne npd]; exact ed)))
      refine ⟨_, rfl, _, rfl, r, .ref pd, d, 12, rfl, hR1, dpd1, g, by decide, by decide, fun H3 pa l xs ga hl hR3 sb3 npa hpa0 epa hda => ?_⟩
      have few : ∀ q ∈ l, ∀ n ∈ askNs q, Few n := fun q hq => askNs_few g (ga.all q hq)
      have eO3 := sb3 _ _ nO eO1
      have ed3 := sb3 _ _ npd ed
      refine ⟨.ref pa, l, rfl, .lst (SqL.of epa) (dpa_same (wo_sub.trans wo_sub) hda), ga.len, few, fun H5 s5 => ?_⟩
      have eO5 := s5 _ _ eO3
      have ed5 := s5 _ _ ed3
      have hR5 := hR3.but s5
      have t0l : (textS l).length ≤ bnd 0 := textS_len12 few (by omega)
      have t0w := textS_wok few
      revert t0l t0w
      generalize textS l = t0
      intro t0l t0w
      refine ⟨_, rfl, r, 4, rfl, hR5, by decide, fun H6 n n0 n4 hR6 sb6 => ?_⟩
      have eO6 := sb6 _ _ nO eO5
      have ed6 := sb6 _ _ npd ed5
      refine ⟨n, rfl, by omega, by omega, ?_⟩
      refine for_range (lo := 0) (n := n.toNat) (fun k σ H' => RowAt K H' r ∧ H' O = some (.lst (ods.map V.str)) ∧ H' pd = some (.tup ([d.tr, d.sc, d.pa, d.he].map V.int)) ∧ ∃ (y : Str) (v6 : Option V), σ = [some (.ref a), some (.ref r), some (.ref O), some (.int (0 + (i : Int))), some (.ref pd), some (.str y), v6, v7] ∧ y.length ≤ bnd k ∧ WOk y) ⟨hR6, eO6, ed6, t0, v6, rfl, t0l, t0w⟩ ?_ ?_
      · rintro k σ H7 hk ⟨hR7, eO7, ed7, y, v6, rfl, hyl, hyw⟩
        have hb : bnd k ≤ 268148 := by
          rcases (by omega : k = 0 ∨ k = 1 ∨ k = 2) with rfl | rfl | rfl <;> decide
        refine ⟨_, rfl, _, rfl, r, y, rfl, hR7, by omega, hyw, fun H8 z hz hzw hR8 sb8 => ?_⟩
        refine ⟨hR8, sb8 _ _ nO eO7, sb8 _ _ npd ed7, z, _, rfl, ?_, hzw⟩
        show z.length ≤ 43 * (bnd k + 1)
        omega
      · rintro σ H7 ⟨hR7, eO7, ed7, y, v6, rfl, hyl, hyw⟩
        have hb : bnd n.toNat ≤ 15000000 := by
          rcases (by omega : n.toNat = 0 ∨ n.toNat = 1 ∨ n.toNat = 2 ∨ n.toNat = 3) with e | e | e | e <;> rw [e] <;> decide
        refine ⟨_, rfl, _, rfl, _, rfl, r, 12, rfl, hR7, by decide, fun H8 v v0 v12 hR8 sb8 => ?_⟩
        have eO8 := sb8 _ _ nO eO7
        have ed8 := sb8 _ _ npd ed7
        have ev : v = ((v.toNat : Nat) : Int) := by omega
        obtain ⟨od, hod⟩ : ∃ od, ods[v.toNat]? = some od := ⟨_, List.getElem?_eq_getElem (by omega)⟩
        obtain ⟨od1, od2⟩ := hods od (List.mem_of_getElem? hod)
        refine ⟨O, _, v, .str od, rfl, rfl, SqL.of eO8, at_of ev (by rw [List.getElem?_map, hod]; rfl), (by show 2 ≤ sizeLine; decide), fun W hW => ?_⟩
        have s9 := same_new (o := .lst [.str y, .str od]) hW
        have eO9 := s9 _ _ eO8
        have ed9 := s9 _ _ ed8
        have hR9 := hR8.but s9
        have eW : upd H8 W (.lst [.str y, .str od]) W = some (.lst [.str y, .str od]) := upd_same
        revert eO9 ed9 hR9 eW
        generalize upd H8 W (.lst [.str y, .str od]) = H9
        intro eO9 ed9 hR9 eW
        refine ⟨W, rfl, ⟨_, SqL.of eW⟩, ?_⟩
        refine for_list (K := K) (a := W) (xs := [.str y, .str od]) (fun j σ H' => Same H9 H' ∧ ∃ v7 : Option V, σ = [some (.ref a), some (.ref r), some (.ref O), some (.int (0 + (i : Int))), some (.ref pd), some (.str y), v6, v7]) ⟨Same.refl _, v7, rfl⟩ (fun j σ H' _ ⟨s, _⟩ => SqL.of (s _ _ eW)) ?_ ?_
        · rintro j u σ Ha hj ⟨sa, v7, rfl⟩
          obtain ⟨z, rfl, hzl, hzw⟩ : ∃ z : Str, u = .str z ∧ z.length ≤ 15000000 ∧ WOk z := by
            have hu := List.mem_of_getElem? hj
            simp only [List.mem_cons, List.not_mem_nil, or_false] at hu
            rcases hu with rfl | rfl
            · exact ⟨y, rfl, by omega, hyw⟩
            · exact ⟨od, rfl, by omega, od2⟩
          have dpd : Dp K Ha (.ref pd) (dDisk d) := dp_tints_of (.inl (.inl (sa _ _ ed9)))
          refine ⟨_, rfl, _, rfl, .ref pd, d, z, rfl, dpd, g, hzl, hzw, fun o hdue Hb u1 sb du => ?_⟩
          refine ⟨_, rfl, _, rfl, .ref pd, d, z, rfl, dp_same sb dpd, hzl, hzw, fun o2 hdue2 Hc u2 sc du2 => ?_⟩
          cases due_unique hdue hdue2
          refine ⟨u1, u2, dOut o, rfl, dp_same sc du, du2, okD_out hdue, fun Hd sd => ?_⟩
          refine ⟨_, rfl, iteF ?_⟩
          exact ⟨sa.trans (sb.trans (sc.trans sd)), _, rfl⟩
        · rintro σ Ha ⟨sa, v7, rfl⟩
          exact ⟨hR9.but sa, sa _ _ eO9, _, _, _, _, _, rfl⟩
    · rintro σ H0 ⟨hR, eO, v3, v4, v5, v6, v7, rfl⟩
      exact q _
end
end Ag

set_option maxHeartbeats 0
namespace Ag
open PySem PySem.Spec PyProof.Rows L2 LamX NdefX
def d_need_disk : He.DefD := ⟨("need_disk", none), "need_disk", "need_disk", defArgs s_need_disk, defBody s_need_disk, defScope s_need_disk, [], []⟩
def d_need_asks : He.DefD := ⟨("need_asks", none), "need_asks", "need_asks", defArgs s_need_asks, defBody s_need_asks, defScope s_need_asks, [], []⟩
def d_number_of : He.DefD := ⟨("number_of", none), "number_of", "number_of", defArgs s_number_of, defBody s_number_of, defScope s_number_of, [], []⟩
def d_read : He.DefD := ⟨("read", none), "read", "read", defArgs s_read, defBody s_read, defScope s_read, [], []⟩
def d__law_taken : He.DefD := ⟨("_law_taken", none), "_law_taken", "_law_taken", defArgs s_l_taken, defBody s_l_taken, defScope s_l_taken, [], []⟩
def d__law_disk : He.DefD := ⟨("_law_disk", none), "_law_disk", "_law_disk", defArgs s_l_disk, defBody s_l_disk, defScope s_l_disk, [], []⟩
def d__law_asks : He.DefD := ⟨("_law_asks", none), "_law_asks", "_law_asks", defArgs s_l_asks, defBody s_l_asks, defScope s_l_asks, [], []⟩
def d__law_text : He.DefD := ⟨("_law_text", none), "_law_text", "_law_text", defArgs s_l_text, defBody s_l_text, defScope s_l_text, [], []⟩
def d__law_alike : He.DefD := ⟨("_law_alike", none), "_law_alike", "_law_alike", defArgs s_l_alike, defBody s_l_alike, defScope s_l_alike, [], []⟩
def d__law_numbers : He.DefD := ⟨("_law_numbers", none), "_law_numbers", "_law_numbers", defArgs s_l_numbers, defBody s_l_numbers, defScope s_l_numbers, [], []⟩
def d__law_due : He.DefD := ⟨("_law_due", none), "_law_due", "_law_due", defArgs s_l_due, defBody s_l_due, defScope s_l_due, [], []⟩
def d__law_reading : He.DefD := ⟨("_law_reading", none), "_law_reading", "_law_reading", defArgs s_l_reading, defBody s_l_reading, defScope s_l_reading, [], []⟩
def d__law_spoilt : He.DefD := ⟨("_law_spoilt", none), "_law_spoilt", "_law_spoilt", defArgs s_l_spoilt, defBody s_l_spoilt, defScope s_l_spoilt, [], []⟩
def d_law : He.DefD := ⟨("law", none), "law", "law", defArgs s_law, defBody s_law, defScope s_law, [], []⟩
def d_I_BadAsk : He.DefD := ⟨("BadAsk", some "__init__"), "__init__", "BadAsk.__init__", defArgs s_badask, defBody s_badask, defScope s_badask, [], []⟩
def d_I_BadText : He.DefD := ⟨("BadText", some "__init__"), "__init__", "BadText.__init__", defArgs s_badtext, defBody s_badtext, defScope s_badtext, [], []⟩
def fnL : List He.DefD := [d_need_disk, d_need_asks, d_number_of, d_read, d__law_taken, d__law_disk, d__law_asks, d__law_text, d__law_alike, d__law_numbers, d__law_due, d__law_reading, d__law_spoilt, d_law, d_I_BadAsk, d_I_BadText]
def faL : List He.Fa := [.glo "need_disk", .glo "need_asks", .glo "number_of", .glo "read", .glo "_law_taken", .glo "_law_disk", .glo "_law_asks", .glo "_law_text", .glo "_law_alike", .glo "_law_numbers", .glo "_law_due", .glo "_law_reading", .glo "_law_spoilt", .glo "law", .glo "ArmError", .glo "BadDisk", .glo "BadAsk", .glo "BadRule", .glo "BadOrder", .glo "TooMany", .glo "BadText", .free "ValueError", .free "bool", .free "int", .free "isinstance", .free "len", .free "list", .free "min", .free "range", .free "str", .free "tuple", .int "MOST_ASKS" 40, .int "MOST_COME" 999, .int "MOST_FIGURES" 3, .int "MOST_PACE" 4, .int "MOST_SECTORS" 16, .int "MOST_TRACKS" 64, .str "FIGURES" "0123456789"]
abbrev RR : PySem.W.OpenRow := PySem.W.OpenLaw.row PySem.Challenge.rw_armorder_k10_texts_that_tell_no_asks
def errB (K : PySem.W.Frag) (x f : Str) : Bool := oexB K (He.ga K x) && (decide (PySem.W.findIn K (.ref (He.ga K x)) "__init__" = some (some (.ref (He.fAd K (x, some "__init__"))))) && (decide (PySem.W.typeIn K (.ref (He.fAd K (x, some "__init__"))) = some (.type "function")) && decide (PySem.W.findIn K (.ref (He.ga K x)) f = some none)))
theorem errB_ok {K : PySem.W.Frag} {mg : Str → Option Value} {x f : Str} (m : mg x = some (.ref (He.ga K x))) (h : errB K x f = true) : ErrC K mg x f (He.ga K x) (He.fAd K (x, some "__init__")) := by
  obtain ⟨h1, h⟩ := Bool.and_eq_true_iff.mp h
  obtain ⟨h2, h⟩ := Bool.and_eq_true_iff.mp h
  obtain ⟨h3, h4⟩ := Bool.and_eq_true_iff.mp h
  exact ⟨m, oexB_ok h1, of_decide_eq_true h2, of_decide_eq_true h3, of_decide_eq_true h4⟩
def lawB (K : PySem.W.Frag) (C CA CT CB CD CO CR CM : Addr) (isT : Bool) : Bool := excXB K C && (decide (PySem.W.exmOne K (.ref C) (.ref CA) = some true) && (decide (PySem.W.kitOne K (.ref C) (.ref CT) = some isT) && (decide (PySem.W.kitOne K (.ref C) (.ref CB) = some (!isT)) &&
  (decide (PySem.W.kitAny K (.ref C) [.ref CD, .ref CO, .ref CR, .ref CM] = some false) && (decide (PySem.W.kitOne K (.ref C) (.type "ValueError") = some true) && (xfB K C && decide (PySem.W.findIn K (.ref C) (if isT then "row" else "number") = some none)))))))
theorem lawB_ok {K : PySem.W.Frag} {C CA CT CB CD CO CR CM : Addr} {isT : Bool} (h : lawB K C CA CT CB CD CO CR CM isT = true) : ErrL K C CA CT CB CD CO CR CM isT := by
  obtain ⟨h1, h⟩ := Bool.and_eq_true_iff.mp h
  obtain ⟨h2, h⟩ := Bool.and_eq_true_iff.mp h
  obtain ⟨h3, h⟩ := Bool.and_eq_true_iff.mp h
  obtain ⟨h4, h⟩ := Bool.and_eq_true_iff.mp h
  obtain ⟨h5, h⟩ := Bool.and_eq_true_iff.mp h
  obtain ⟨h6, h⟩ := Bool.and_eq_true_iff.mp h
  obtain ⟨h7, h8⟩ := Bool.and_eq_true_iff.mp h
  exact ⟨excXB_ok h1, of_decide_eq_true h2, of_decide_eq_true h3, of_decide_eq_true h4, of_decide_eq_true h5, of_decide_eq_true h6, xfB_ok h7, of_decide_eq_true h8⟩
def exL : PySem.W.Frag → Bool := fun K => cinitB K (He.ga K "ArmError") && (errB K "BadAsk" "number" && (errB K "BadText" "row" && (lawB K (He.ga K "BadText") (He.ga K "ArmError") (He.ga K "BadText") (He.ga K "BadAsk") (He.ga K "BadDisk") (He.ga K "BadOrder") (He.ga K "BadRule") (He.ga K "TooMany") true && lawB K (He.ga K "BadAsk") (He.ga K "ArmError") (He.ga K "BadText") (He.ga K "BadAsk") (He.ga K "BadDisk") (He.ga K "BadOrder") (He.ga K "BadRule") (He.ga K "TooMany") false)))
/-- the statics' place is looked at beside what the main module reaches -/
def asS (g : Addr → Option Obj) : List Addr := He.asD g 6 ++ [PySem.cStatics]
abbrev hk : PySem.W.Hook := hookA faL fnL [] exL asS
def ob (s : PySem.W.SharedT) : He.AlX := obsA faL fnL [] exL asS (HandSHeadRun.getT s)
theorem ob_eq (s : PySem.W.SharedT) : ob s = hk.obs s.abs := obA_eq s
def looseL : List PySem.Str := (["__name__", "ArmError", "BadDisk", "BadAsk", "BadRule", "BadOrder", "TooMany", "BadText", "MOST_TRACKS", "MOST_SECTORS", "MOST_PACE", "MOST_ASKS", "MOST_COME", "need_disk", "need_asks", "FIGURES", "MOST_FIGURES", "number_of", "read", "_law_taken", "_law_alike", "_law_disk", "_law_asks", "_law_text", "_law_numbers", "_law_due", "_law_reading", "_law_spoilt"] : List PySem.Str)
theorem run (w : World) : HandSHeadRun.RunEq RR (PySem.W.view RR.prog [31]) hk ob 3000 looseL w := by
  intro os
  kernel_rfl
def sp_lawT (K : PySem.W.Frag) : Sp := fun vs H Q _ => ∃ (a : Addr) (ns : List Int), vs = [.ref a] ∧ SqL K H a (ns.map V.int) ∧ ∀ H', Q (.bl true) H'
theorem facts {w : World} {K : PySem.W.Frag} {h : Heap} {mg : Str → Option Value} {f : Addr} (X : K.In h) (G : h.Ns mainGlobals mg) (hfa : mg ("law" : Str) = some (.ref f)) (c : He.SaysX faL fnL [] [] exL w h K) : LawAtS PySem.Challenge.rw_armorder_k10_texts_that_tell_no_asks w K CX0 8 63 "_law_script" mg f h := by
  have cD : He.SaysD faL fnL K := congrArg Prod.fst c.t
  have ex2 : (cinitB K (He.ga K "ArmError") && (errB K "BadAsk" "number" && (errB K "BadText" "row" && (lawB K (He.ga K "BadText") (He.ga K "ArmError") (He.ga K "BadText") (He.ga K "BadAsk") (He.ga K "BadDisk") (He.ga K "BadOrder") (He.ga K "BadRule") (He.ga K "TooMany") true && lawB K (He.ga K "BadAsk") (He.ga K "ArmError") (He.ga K "BadText") (He.ga K "BadAsk") (He.ga K "BadDisk") (He.ga K "BadOrder") (He.ga K "BadRule") (He.ga K "TooMany") false)))) = true := c.more
  obtain ⟨x1, ex2⟩ := Bool.and_eq_true_iff.mp ex2
  obtain ⟨x2, ex2⟩ := Bool.and_eq_true_iff.mp ex2
  obtain ⟨x3, ex2⟩ := Bool.and_eq_true_iff.mp ex2
  obtain ⟨x4, x5⟩ := Bool.and_eq_true_iff.mp ex2
  have TA := cinitB_ok x1
  have m_ArmError := He.glo_ok X G (cD.fact 14 (f := .glo "ArmError") rfl)
  have m_BadDisk := He.glo_ok X G (cD.fact 15 (f := .glo "BadDisk") rfl)
  have m_BadAsk := He.glo_ok X G (cD.fact 16 (f := .glo "BadAsk") rfl)
  have m_BadRule := He.glo_ok X G (cD.fact 17 (f := .glo "BadRule") rfl)
  have m_BadOrder := He.glo_ok X G (cD.fact 18 (f := .glo "BadOrder") rfl)
  have m_TooMany := He.glo_ok X G (cD.fact 19 (f := .glo "TooMany") rfl)
  have m_BadText := He.glo_ok X G (cD.fact 20 (f := .glo "BadText") rfl)
  have EB := errB_ok (mg := mg) m_BadAsk x2
  have ET := errB_ok (mg := mg) m_BadText x3
  have LT := lawB_ok x4
  have LB := lawB_ok x5
  have e := hfa.symm.trans (He.glo_ok X G (cD.fact 13 (f := .glo "law") rfl))
  cases e
  obtain ⟨fd_need_disk, D_need_disk⟩ := cD.def_ 0 (d := d_need_disk) rfl
  have F_need_disk := fun_of (st := s_need_disk) D_need_disk
  have b_need_disk := F_need_disk.binds (ps := ["disk"]) fun _ _ _ _ _ _ us hl => match us, hl with | [_], _ => rfl
  have C_need_disk : Cal K mg "need_disk" (He.fAd K ("need_disk", none)) _ ["disk"] := ⟨He.glo_ok X G (cD.fact 0 (f := .glo "need_disk") rfl), F_need_disk.kp, b_need_disk⟩
  obtain ⟨fd_need_asks, D_need_asks⟩ := cD.def_ 1 (d := d_need_asks) rfl
  have F_need_asks := fun_of (st := s_need_asks) D_need_asks
  have b_need_asks := F_need_asks.binds (ps := ["disk", "asks"]) fun _ _ _ _ _ _ us hl => match us, hl with | [_, _], _ => rfl
  have C_need_asks : Cal K mg "need_asks" (He.fAd K ("need_asks", none)) _ ["disk", "asks"] := ⟨He.glo_ok X G (cD.fact 1 (f := .glo "need_asks") rfl), F_need_asks.kp, b_need_asks⟩
  obtain ⟨fd_number_of, D_number_of⟩ := cD.def_ 2 (d := d_number_of) rfl
  have F_number_of := fun_of (st := s_number_of) D_number_of
  have b_number_of := F_number_of.binds (ps := ["word", "row"]) fun _ _ _ _ _ _ us hl => match us, hl with | [_, _], _ => rfl
  have C_number_of : Cal K mg "number_of" (He.fAd K ("number_of", none)) _ ["word", "row"] := ⟨He.glo_ok X G (cD.fact 2 (f := .glo "number_of") rfl), F_number_of.kp, b_number_of⟩
  obtain ⟨fd_read, D_read⟩ := cD.def_ 3 (d := d_read) rfl
  have F_read := fun_of (st := s_read) D_read
  have b_read := F_read.binds (ps := ["disk", "text"]) fun _ _ _ _ _ _ us hl => match us, hl with | [_, _], _ => rfl
  have C_read : Cal K mg "read" (He.fAd K ("read", none)) _ ["disk", "text"] := ⟨He.glo_ok X G (cD.fact 3 (f := .glo "read") rfl), F_read.kp, b_read⟩
  obtain ⟨fd__law_taken, D__law_taken⟩ := cD.def_ 4 (d := d__law_taken) rfl
  have F__law_taken := fun_of (st := s_l_taken) D__law_taken
  have b__law_taken := F__law_taken.binds (ps := ["_law_row", "_law_many"]) fun _ _ _ _ _ _ us hl => match us, hl with | [_, _], _ => rfl
  have C__law_taken : Cal K mg "_law_taken" (He.fAd K ("_law_taken", none)) _ ["_law_row", "_law_many"] := ⟨He.glo_ok X G (cD.fact 4 (f := .glo "_law_taken") rfl), F__law_taken.kp, b__law_taken⟩
  obtain ⟨fd__law_disk, D__law_disk⟩ := cD.def_ 5 (d := d__law_disk) rfl
  have F__law_disk := fun_of (st := s_l_disk) D__law_disk
  have b__law_disk := F__law_disk.binds (ps := ["_law_row"]) fun _ _ _ _ _ _ us hl => match us, hl with | [_], _ => rfl
  have C__law_disk : Cal K mg "_law_disk" (He.fAd K ("_law_disk", none)) _ ["_law_row"] := ⟨He.glo_ok X G (cD.fact 5 (f := .glo "_law_disk") rfl), F__law_disk.kp, b__law_disk⟩
  obtain ⟨fd__law_asks, D__law_asks⟩ := cD.def_ 6 (d := d__law_asks) rfl
  have F__law_asks := fun_of (st := s_l_asks) D__law_asks
  have b__law_asks := F__law_asks.binds (ps := ["_law_row", "_law_disk_here", "_law_most"]) fun _ _ _ _ _ _ us hl => match us, hl with | [_, _, _], _ => rfl
  have C__law_asks : Cal K mg "_law_asks" (He.fAd K ("_law_asks", none)) _ ["_law_row", "_law_disk_here", "_law_most"] := ⟨He.glo_ok X G (cD.fact 6 (f := .glo "_law_asks") rfl), F__law_asks.kp, b__law_asks⟩
  obtain ⟨fd__law_text, D__law_text⟩ := cD.def_ 7 (d := d__law_text) rfl
  have F__law_text := fun_of (st := s_l_text) D__law_text
  have b__law_text := F__law_text.binds (ps := ["_law_asks_here"]) fun _ _ _ _ _ _ us hl => match us, hl with | [_], _ => rfl
  have C__law_text : Cal K mg "_law_text" (He.fAd K ("_law_text", none)) _ ["_law_asks_here"] := ⟨He.glo_ok X G (cD.fact 7 (f := .glo "_law_text") rfl), F__law_text.kp, b__law_text⟩
  obtain ⟨fd__law_alike, D__law_alike⟩ := cD.def_ 8 (d := d__law_alike) rfl
  have F__law_alike := fun_of (st := s_l_alike) D__law_alike
  have b__law_alike := F__law_alike.binds (ps := ["_law_found", "_law_due_here"]) fun _ _ _ _ _ _ us hl => match us, hl with | [_, _], _ => rfl
  have C__law_alike : Cal K mg "_law_alike" (He.fAd K ("_law_alike", none)) _ ["_law_found", "_law_due_here"] := ⟨He.glo_ok X G (cD.fact 8 (f := .glo "_law_alike") rfl), F__law_alike.kp, b__law_alike⟩
  obtain ⟨fd__law_numbers, D__law_numbers⟩ := cD.def_ 9 (d := d__law_numbers) rfl
  have F__law_numbers := fun_of (st := s_l_numbers) D__law_numbers
  have b__law_numbers := F__law_numbers.binds (ps := ["_law_words"]) fun _ _ _ _ _ _ us hl => match us, hl with | [_], _ => rfl
  have C__law_numbers : Cal K mg "_law_numbers" (He.fAd K ("_law_numbers", none)) _ ["_law_words"] := ⟨He.glo_ok X G (cD.fact 9 (f := .glo "_law_numbers") rfl), F__law_numbers.kp, b__law_numbers⟩
  obtain ⟨fd__law_due, D__law_due⟩ := cD.def_ 10 (d := d__law_due) rfl
  have F__law_due := fun_of (st := s_l_due) D__law_due
  have b__law_due := F__law_due.binds (ps := ["_law_disk_here", "_law_text_here"]) fun _ _ _ _ _ _ us hl => match us, hl with | [_, _], _ => rfl
  have C__law_due : Cal K mg "_law_due" (He.fAd K ("_law_due", none)) _ ["_law_disk_here", "_law_text_here"] := ⟨He.glo_ok X G (cD.fact 10 (f := .glo "_law_due") rfl), F__law_due.kp, b__law_due⟩
  obtain ⟨fd__law_reading, D__law_reading⟩ := cD.def_ 11 (d := d__law_reading) rfl
  have F__law_reading := fun_of (st := s_l_reading) D__law_reading
  have b__law_reading := F__law_reading.binds (ps := ["_law_disk_here", "_law_text_here"]) fun _ _ _ _ _ _ us hl => match us, hl with | [_, _], _ => rfl
  have C__law_reading : Cal K mg "_law_reading" (He.fAd K ("_law_reading", none)) _ ["_law_disk_here", "_law_text_here"] := ⟨He.glo_ok X G (cD.fact 11 (f := .glo "_law_reading") rfl), F__law_reading.kp, b__law_reading⟩
  obtain ⟨fd__law_spoilt, D__law_spoilt⟩ := cD.def_ 12 (d := d__law_spoilt) rfl
  have F__law_spoilt := fun_of (st := s_l_spoilt) D__law_spoilt
  have b__law_spoilt := F__law_spoilt.binds (ps := ["_law_row", "_law_text_here"]) fun _ _ _ _ _ _ us hl => match us, hl with | [_, _], _ => rfl
  have C__law_spoilt : Cal K mg "_law_spoilt" (He.fAd K ("_law_spoilt", none)) _ ["_law_row", "_law_text_here"] := ⟨He.glo_ok X G (cD.fact 12 (f := .glo "_law_spoilt") rfl), F__law_spoilt.kp, b__law_spoilt⟩
  obtain ⟨fd_law, D_law⟩ := cD.def_ 13 (d := d_law) rfl
  have F_law := fun_of (st := s_law) D_law
  obtain ⟨fd_I_BadAsk, D_I_BadAsk⟩ := cD.def_ 14 (d := d_I_BadAsk) rfl
  have F_I_BadAsk := fun_of (st := s_badask) D_I_BadAsk
  have b_I_BadAsk := F_I_BadAsk.binds (ps := ["self", "number"]) fun _ _ _ _ _ _ us hl => match us, hl with | [_, _], _ => rfl
  obtain ⟨fd_I_BadText, D_I_BadText⟩ := cD.def_ 15 (d := d_I_BadText) rfl
  have F_I_BadText := fun_of (st := s_badtext) D_I_BadText
  have b_I_BadText := F_I_BadText.binds (ps := ["self", "row"]) fun _ _ _ _ _ _ us hl => match us, hl with | [_, _], _ => rfl
  have z_ValueError := He.free_ok X G (cD.fact 21 (f := .free "ValueError") rfl)
  have z_bool := He.free_ok X G (cD.fact 22 (f := .free "bool") rfl)
  have z_int := He.free_ok X G (cD.fact 23 (f := .free "int") rfl)
  have z_isinstance := He.free_ok X G (cD.fact 24 (f := .free "isinstance") rfl)
  have z_len := He.free_ok X G (cD.fact 25 (f := .free "len") rfl)
  have z_list := He.free_ok X G (cD.fact 26 (f := .free "list") rfl)
  have z_min := He.free_ok X G (cD.fact 27 (f := .free "min") rfl)
  have z_range := He.free_ok X G (cD.fact 28 (f := .free "range") rfl)
  have z_str := He.free_ok X G (cD.fact 29 (f := .free "str") rfl)
  have z_tuple := He.free_ok X G (cD.fact 30 (f := .free "tuple") rfl)
  obtain ⟨t_FIGURES, c_FIGURES⟩ := He.str_ok X G (cD.fact 37 (f := .str "FIGURES" "0123456789") rfl)
  obtain ⟨t_MOST_ASKS, c_MOST_ASKS⟩ := He.int_ok X G (cD.fact 31 (f := .int "MOST_ASKS" 40) rfl)
  obtain ⟨t_MOST_COME, c_MOST_COME⟩ := He.int_ok X G (cD.fact 32 (f := .int "MOST_COME" 999) rfl)
  obtain ⟨t_MOST_FIGURES, c_MOST_FIGURES⟩ := He.int_ok X G (cD.fact 33 (f := .int "MOST_FIGURES" 3) rfl)
  obtain ⟨t_MOST_PACE, c_MOST_PACE⟩ := He.int_ok X G (cD.fact 34 (f := .int "MOST_PACE" 4) rfl)
  obtain ⟨t_MOST_SECTORS, c_MOST_SECTORS⟩ := He.int_ok X G (cD.fact 35 (f := .int "MOST_SECTORS" 16) rfl)
  obtain ⟨t_MOST_TRACKS, c_MOST_TRACKS⟩ := He.int_ok X G (cD.fact 36 (f := .int "MOST_TRACKS" 64) rfl)
  refine ⟨fd_law, [], sp_lawT K, fun p hp => absurd hp (by simp), fun p hp => absurd hp (by simp), fun p hp => absurd hp (by simp), fun s u => ?_, fun H a ns hl hb hH hS => ⟨a, ns, rfl, hS, fun _ => rfl⟩, fun base KB NB hTB => ?_⟩
  · exact FunD.bindsA (ps := ["_law_script"]) D_law (fun _ _ _ _ _ _ us hl => match us, hl with | [_], _ => rfl) s [u] rfl
  · have G_I_BadAsk := ok_badask (P := (PySem.Challenge.rw_armorder_k10_texts_that_tell_no_asks).prog) (w := w) (base := base) F_I_BadAsk TA m_ArmError EB.T EB.no
    have G_I_BadText := ok_badtext (P := (PySem.Challenge.rw_armorder_k10_texts_that_tell_no_asks).prog) (w := w) (base := base) F_I_BadText TA m_ArmError ET.T ET.no
    have G_need_disk := ok_need_disk (P := (PySem.Challenge.rw_armorder_k10_texts_that_tell_no_asks).prog) (w := w) (base := base) F_need_disk c_MOST_TRACKS c_MOST_SECTORS c_MOST_PACE
    have G_need_asks := ok_need_asksX (P := (PySem.Challenge.rw_armorder_k10_texts_that_tell_no_asks).prog) (w := w) (base := base) F_need_asks EB G_I_BadAsk b_I_BadAsk z_range z_len c_MOST_ASKS c_MOST_COME
    have G_number_of := ok_number_ofX (P := (PySem.Challenge.rw_armorder_k10_texts_that_tell_no_asks).prog) (w := w) (base := base) F_number_of ET G_I_BadText b_I_BadText z_len z_int c_MOST_FIGURES c_FIGURES
    have G_read := ok_readX (P := (PySem.Challenge.rw_armorder_k10_texts_that_tell_no_asks).prog) (w := w) (base := base) F_read ET G_I_BadText b_I_BadText G_need_disk C_need_disk G_need_asks C_need_asks G_number_of C_number_of z_len z_range z_tuple
    have G__law_taken := ok_l_taken (P := (PySem.Challenge.rw_armorder_k10_texts_that_tell_no_asks).prog) (w := w) (base := base) F__law_taken z_len
    have G__law_disk := ok_l_disk (P := (PySem.Challenge.rw_armorder_k10_texts_that_tell_no_asks).prog) (w := w) (base := base) F__law_disk G__law_taken C__law_taken.m C__law_taken.k C__law_taken.b
    have G__law_asks := ok_l_asks (P := (PySem.Challenge.rw_armorder_k10_texts_that_tell_no_asks).prog) (w := w) (base := base) F__law_asks G__law_taken C__law_taken.m C__law_taken.k C__law_taken.b z_min z_range
    have G__law_text := ok_l_text (P := (PySem.Challenge.rw_armorder_k10_texts_that_tell_no_asks).prog) (w := w) (base := base) F__law_text z_str
    have G__law_alike := ok_l_alike (P := (PySem.Challenge.rw_armorder_k10_texts_that_tell_no_asks).prog) (w := w) (base := base) F__law_alike C__law_alike.b C__law_alike.m z_isinstance z_tuple z_list z_bool z_str z_int z_len z_range 4
    have G__law_numbers := ok_l_numbers (P := (PySem.Challenge.rw_armorder_k10_texts_that_tell_no_asks).prog) (w := w) (base := base) F__law_numbers z_len z_int z_tuple
    have G__law_due := ok_l_due (P := (PySem.Challenge.rw_armorder_k10_texts_that_tell_no_asks).prog) (w := w) (base := base) F__law_due G__law_numbers C__law_numbers z_len z_range
    have G__law_reading := ok_l_reading (P := (PySem.Challenge.rw_armorder_k10_texts_that_tell_no_asks).prog) (w := w) (base := base) F__law_reading G_read C_read LT LB m_ArmError m_BadText m_BadAsk m_BadDisk m_BadOrder m_BadRule m_TooMany z_isinstance z_ValueError
    have G__law_spoilt := ok_l_spoilt (P := (PySem.Challenge.rw_armorder_k10_texts_that_tell_no_asks).prog) (w := w) (base := base) F__law_spoilt G__law_taken C__law_taken z_len z_int
    refine fnOk_frozen (ok_law (P := (PySem.Challenge.rw_armorder_k10_texts_that_tell_no_asks).prog) (w := w) (base := base) F_law G__law_taken C__law_taken G__law_disk C__law_disk G__law_asks C__law_asks G__law_text C__law_text G__law_spoilt C__law_spoilt G__law_reading C__law_reading G__law_due C__law_due G__law_alike C__law_alike z_range) (fun vs H Q E hh => ?_) (fun vs H Q E hh => ?_)
    · obtain ⟨a, ns, rfl, _⟩ := hh
      rfl
    · obtain ⟨a, ns, rfl, hS, q⟩ := hh
      rcases hS with (hx | ⟨o, hx⟩) | hx
      · exact .inr ⟨a, _, hx, fun o => ⟨a, ns, rfl, .inl ⟨o, upd_same⟩, q⟩⟩
      · exact .inl ⟨a, ns, rfl, .inl ⟨o, hx⟩, q⟩
      · exact .inl ⟨a, ns, rfl, .inr hx, q⟩
end Ag
open PySem PySem.W PySem.Calls PyProof.Rows
theorem PySem.Challenge.cw_armorder_k10_texts_that_tell_no_asks_holds : PySem.Challenge.rw_armorder_k10_texts_that_tell_no_asks.Holds := by
  w_on; o_law
  refine HandSHeadRun.head_any (r := OpenLaw.row PySem.Challenge.rw_armorder_k10_texts_that_tell_no_asks) (q := view (OpenLaw.row PySem.Challenge.rw_armorder_k10_texts_that_tell_no_asks).prog [31]) (H := Ag.hk) (ob := Ag.ob) (M := 3000) (loose := Ag.looseL) (d := HandSHeadRun.topDef (OpenLaw.row PySem.Challenge.rw_armorder_k10_texts_that_tell_no_asks).prog 31) (kwd := []) Ag.ob_eq
    (by kernel_rfl) (fun s => by kernel_rfl) Ag.run (by kernel_rfl) (by kernel_rfl) (by kernel_rfl) (by rfl) (by first | assumption | decide +kernel) (by decide +kernel) ⟨rfl, rfl, rfl, rfl, rfl, by decide +kernel⟩ ?hw ?hc
  case hw => w_witness2
  case hc =>
    refine LamX.walk_ofTsE (l := PySem.Challenge.rw_armorder_k10_texts_that_tell_no_asks) (n := 63) (k := 8) (x := "_law_script") (CX := fun _ => L2.CX0) rfl (by decide) (by kernel_rfl) ⟨rfl, by decide, by decide⟩ ?F (fun _ _ _ _ _ z => z)
    intro w mg fa h Y G hmg0
    obtain ⟨K, KX, c⟩ := Y
    have hmg : mg ("law" : PySem.Str) = some (.ref fa) := by
      have e : (HandSHeadRun.topDef (OpenLaw.row PySem.Challenge.rw_armorder_k10_texts_that_tell_no_asks).prog 31).name = ("law" : PySem.Str) := by kernel_rfl
      rw [← e]
      exact hmg0
    exact ⟨K, KX, Ag.facts KX G hmg c⟩

