import PyProof.Rows.All
import Wide.All
import OpenK.AllK
import Wide.FinOn
import HandS.ForMost
import HandS.SortKw
import HandS.SortInts
import HandS.Conv
import HandS.IsInst
import KE.DataMinMax
import KE.SortData
import HandS.Lambda
import HandS.Nested
import HandS.SetFor
import KE.DataMinKey
import HandS.Head0
import HandS.Head1
import HandS.Head2
import HandS.HeadEnd
import HandS.HeadHook1
import HandS.HeadHook2
import HandS.HeadHook3
import HandS.HeadHook4
import HandS.HeadWalk
import PySem.Challenge.RW_armorder_k07_whole_later_turned_and_mirr
set_option Elab.async false
set_option linter.all false
set_option maxRecDepth 100000
set_option maxHeartbeats 4000000

namespace Ag
open PySem PySem.Spec PyProof.Rows L2

/-! ### heaps: what stands, a new thing, a changed thing -/
theorem same_new {H : Hp} {p : Addr} {o : HO} (h : H p = none) : Same H (upd H p o) := fun b x e => by
  rw [upd_ne (ne_of_none e h)]
  exact e
theorem same_upd {G H : Hp} {p : Addr} {o : HO} (s : Same G H) (h : G p = none) : Same G (upd H p o) := fun b x e => by
  rw [upd_ne (ne_of_none e h)]
  exact s b x e
theorem same_sqt {K : PySem.W.Frag} {H H' : Hp} {a : Addr} {xs : List V} (e : Same H H') (h : SqT K H a xs) : SqT K H' a xs := by
  rcases h with (h | ⟨o, h⟩) | h
  · exact .inl (.inl (e _ _ h))
  · exact .inl (.inr ⟨o, e _ _ h⟩)
  · exact .inr h
mutual
theorem dp_same {K : PySem.W.Frag} {H H' : Hp} (e : Same H H') : ∀ {d : PyData} {v : V}, Dp K H v d → Dp K H' v d
  | .none, _, h => by cases h; exact .non
  | .bool _, _, h => by cases h; exact .bl _
  | .int _, _, h => by cases h; exact .int _
  | .str _, _, h => by cases h; exact .str _
  | .list _, _, h => by
    cases h with
    | lst hs ha => exact .lst (e.seq hs) (dpa_same e ha)
  | .tuple _, _, h => by
    cases h with
    | tup hs ha => exact .tup (same_sqt e hs) (dpa_same e ha)
  | .dict _, _, h => by cases h
theorem dpa_same {K : PySem.W.Frag} {H H' : Hp} (e : Same H H') : ∀ {ds : List PyData} {vs : List V}, DpAll K H vs ds → DpAll K H' vs ds
  | [], _, h => by cases h; exact .nil
  | _ :: _, _, h => by
    cases h with
    | cons h1 h2 => exact .cons (dp_same e h1) (dpa_same e h2)
end
/-- the heap less what stands at r -/
def wo (H : Hp) (r : Addr) : Hp := fun b => if b = r then none else H b
theorem wo_at {H : Hp} {r : Addr} : wo H r r = none := by unfold wo; rw [if_pos rfl]
theorem wo_ne {H : Hp} {r b : Addr} (h : b ≠ r) : wo H r b = H b := by unfold wo; rw [if_neg h]
theorem wo_sub {H : Hp} {r : Addr} : Same (wo H r) H := fun b o e => by
  by_cases h : b = r
  · rw [h, wo_at] at e
    cases e
  · rw [wo_ne h] at e
    exact e
theorem wo_mono {H H' : Hp} {r : Addr} (s : Same H H') : Same (wo H r) (wo H' r) := fun b o e => by
  by_cases h : b = r
  · rw [h, wo_at] at e
    cases e
  · rw [wo_ne h] at e
    rw [wo_ne h]
    exact s _ _ e
theorem into_wo {G H : Hp} {r : Addr} (s : Same G H) (h : G r = none) : Same G (wo H r) := fun b o e => by
  rw [wo_ne (ne_of_none e h)]
  exact s _ _ e
/-- what is new in H' -/
def nw (H H' : Hp) : Hp := fun b => match H b with
  | none => H' b
  | some _ => none
theorem nw_none {H H' : Hp} {b : Addr} (h : H b = none) : nw H H' b = H' b := by unfold nw; rw [h]
theorem nw_some {H H' : Hp} {b : Addr} {o : HO} (h : H b = some o) : nw H H' b = none := by unfold nw; rw [h]
theorem nw_of {H H' : Hp} {b : Addr} {o : HO} (h : nw H H' b = some o) : H b = none ∧ H' b = some o := by
  cases e : H b with
  | none => rw [nw_none e] at h; exact ⟨rfl, h⟩
  | some x => rw [nw_some e] at h; cases h
theorem nw_sub {H H' : Hp} : Same (nw H H') H' := fun b o e => (nw_of e).2
theorem nw_wo {H H' : Hp} {r : Addr} {o : HO} (h : H r = some o) : Same (nw H H') (wo H' r) := into_wo nw_sub (nw_some h)
theorem nw_into {G H H' : Hp} {r : Addr} (hr : ∃ o, H r = some o) : Same (nw H H') (wo H' r) := let ⟨_, h⟩ := hr; nw_wo h
/-- a later heap, the same beginning -/
theorem nw_later {H H1 H2 : Hp} (s : Same H1 H2) : Same (nw H H1) (nw H H2) := fun b o e => by
  obtain ⟨h1, h2⟩ := nw_of e
  rw [nw_none h1]
  exact s _ _ h2
/-- an earlier beginning -/
theorem nw_earlier {H H1 H2 : Hp} (s : Same H H1) : Same (nw H1 H2) (nw H H2) := fun b o e => by
  obtain ⟨h1, h2⟩ := nw_of e
  rw [nw_none (s.free h1)]
  exact h2
theorem nw_new {H H' : Hp} {p : Addr} {o : HO} (s : Same H H') (h : H' p = none) : nw H (upd H' p o) p = some o := by
  rw [nw_none (s.free h), upd_same]
theorem sqt_dp {K : PySem.W.Frag} {H : Hp} {a : Addr} {xs : List V} {ds : List PyData} (h : SqT K H a xs) (d : DpAll K H xs ds) : Dp K H (.ref a) (.tuple ds) := .tup h d

/-! ### ints, pairs, lists of them as data -/
theorem dpa_ints {K : PySem.W.Frag} {H : Hp} : ∀ ns : List Int, DpAll K H (ns.map V.int) (ns.map PyData.int)
  | [] => .nil
  | n :: r => .cons (.int n) (dpa_ints r)
theorem dpa_ints_inv {K : PySem.W.Frag} {H : Hp} : ∀ {ns : List Int} {vs : List V}, DpAll K H vs (ns.map PyData.int) → vs = ns.map V.int
  | [], _, h => by cases h; rfl
  | n :: r, _, h => by
    cases h with
    | cons h1 h2 =>
      cases h1
      rw [dpa_ints_inv h2]
      rfl
theorem dpa_len {K : PySem.W.Frag} {H : Hp} : ∀ {ds : List PyData} {vs : List V}, DpAll K H vs ds → vs.length = ds.length
  | [], _, h => by cases h; rfl
  | _ :: _, _, h => by
    cases h with
    | cons h1 h2 => simp only [List.length_cons, dpa_len h2]
theorem dpa_get {K : PySem.W.Frag} {H : Hp} : ∀ {ds : List PyData} {vs : List V} {i : Nat} {d : PyData}, DpAll K H vs ds → ds[i]? = some d → ∃ v, vs[i]? = some v ∧ Dp K H v d
  | [], _, _, _, _, e => by simp at e
  | _ :: _, _, 0, _, h, e => by
    cases h with
    | cons h1 h2 => simp at e; subst e; exact ⟨_, rfl, h1⟩
  | _ :: _, _, i + 1, _, h, e => by
    cases h with
    | cons h1 h2 =>
      obtain ⟨v, a, b⟩ := dpa_get (i := i) h2 (by simpa using e)
      exact ⟨v, by simpa using a, b⟩
theorem dpa_get' {K : PySem.W.Frag} {H : Hp} : ∀ {ds : List PyData} {vs : List V} {i : Nat} {v : V}, DpAll K H vs ds → vs[i]? = some v → ∃ d, ds[i]? = some d ∧ Dp K H v d
  | [], _, _, _, h, e => by cases h; simp at e
  | _ :: _, _, 0, _, h, e => by
    cases h with
    | cons h1 h2 => simp at e; subst e; exact ⟨_, rfl, h1⟩
  | _ :: _, _, i + 1, _, h, e => by
    cases h with
    | cons h1 h2 =>
      obtain ⟨v, a, b⟩ := dpa_get' (i := i) h2 (by simpa using e)
      exact ⟨v, by simpa using a, b⟩
theorem dpa_snoc {K : PySem.W.Frag} {H : Hp} : ∀ {ds : List PyData} {vs : List V} {d : PyData} {v : V}, DpAll K H vs ds → Dp K H v d → DpAll K H (vs ++ [v]) (ds ++ [d])
  | [], _, _, _, h, e => by cases h; exact .cons e .nil
  | _ :: _, _, _, _, h, e => by
    cases h with
    | cons h1 h2 => exact .cons h1 (dpa_snoc h2 e)
theorem dp_list {K : PySem.W.Frag} {H : Hp} {v : V} {ds : List PyData} (h : Dp K H v (.list ds)) : ∃ a xs, v = .ref a ∧ SqL K H a xs ∧ DpAll K H xs ds := by
  cases h with
  | lst hs ha => exact ⟨_, _, rfl, hs, ha⟩
theorem dp_tuple {K : PySem.W.Frag} {H : Hp} {v : V} {ds : List PyData} (h : Dp K H v (.tuple ds)) : ∃ a xs, v = .ref a ∧ SqT K H a xs ∧ DpAll K H xs ds := by
  cases h with
  | tup hs ha => exact ⟨_, _, rfl, hs, ha⟩
theorem dp_ints {K : PySem.W.Frag} {H : Hp} {v : V} {ns : List Int} (h : Dp K H v (.list (ns.map PyData.int))) : ∃ a, v = .ref a ∧ SqL K H a (ns.map V.int) := by
  obtain ⟨a, xs, e, hs, ha⟩ := dp_list h
  rw [dpa_ints_inv ha] at hs
  exact ⟨a, e, hs⟩
theorem dp_tints {K : PySem.W.Frag} {H : Hp} {v : V} {ns : List Int} (h : Dp K H v (.tuple (ns.map PyData.int))) : ∃ a, v = .ref a ∧ SqT K H a (ns.map V.int) := by
  obtain ⟨a, xs, e, hs, ha⟩ := dp_tuple h
  rw [dpa_ints_inv ha] at hs
  exact ⟨a, e, hs⟩
theorem dp_ints_of {K : PySem.W.Frag} {H : Hp} {a : Addr} {ns : List Int} (h : SqL K H a (ns.map V.int)) : Dp K H (.ref a) (.list (ns.map PyData.int)) := .lst h (dpa_ints ns)
theorem dp_tints_of {K : PySem.W.Frag} {H : Hp} {a : Addr} {ns : List Int} (h : SqT K H a (ns.map V.int)) : Dp K H (.ref a) (.tuple (ns.map PyData.int)) := .tup h (dpa_ints ns)

theorem eqv_nil (ns : List Int) : PyData.eqv (.list (ns.map PyData.int)) (.list []) = decide (ns = []) := by
  cases ns with
  | nil => simp [PyData.eqv, PyData.eqvAll]
  | cons n r => simp [PyData.eqv, PyData.eqvAll]

/-! ### disks and asks -/
/-- (come, track, sector) -/
abbrev Ask := Int × Int × Int
def dAsk (a : Ask) : PyData := .tuple ([a.1, a.2.1, a.2.2].map PyData.int)
def dAsks (l : List Ask) : PyData := .list (l.map dAsk)
structure Disk where
  tr : Int
  sc : Int
  pa : Int
  he : Int
def dDisk (d : Disk) : PyData := .tuple ([d.tr, d.sc, d.pa, d.he].map PyData.int)
structure GoodDisk (d : Disk) : Prop where
  t1 : 1 ≤ d.tr
  t2 : d.tr ≤ 64
  s1 : 1 ≤ d.sc
  s2 : d.sc ≤ 16
  p1 : 1 ≤ d.pa
  p2 : d.pa ≤ 4
  h1 : 0 ≤ d.he
  h2 : d.he < d.tr
structure GoodAsk (d : Disk) (a : Ask) : Prop where
  c1 : 0 ≤ a.1
  c2 : a.1 ≤ 999
  t1 : 0 ≤ a.2.1
  t2 : a.2.1 < d.tr
  s1 : 0 ≤ a.2.2
  s2 : a.2.2 < d.sc
structure GoodAsks (d : Disk) (l : List Ask) : Prop where
  len : l.length ≤ 40
  all : ∀ a ∈ l, GoodAsk d a
theorem GoodAsks.at {d : Disk} {l : List Ask} (g : GoodAsks d l) {i : Nat} {a : Ask} (h : l[i]? = some a) : GoodAsk d a := g.all a (List.mem_of_getElem? h)
theorem dp_asks {K : PySem.W.Frag} {H : Hp} {v : V} {l : List Ask} (h : Dp K H v (dAsks l)) : ∃ a xs, v = .ref a ∧ SqL K H a xs ∧ xs.length = l.length ∧
    ∀ (i : Nat) (k : Ask), l[i]? = some k → ∃ p, xs[i]? = some (.ref p) ∧ SqT K H p [.int k.1, .int k.2.1, .int k.2.2] ∧ Dp K H (.ref p) (dAsk k) := by
  obtain ⟨a, xs, e, hs, ha⟩ := dp_list h
  refine ⟨a, xs, e, hs, by rw [dpa_len ha, List.length_map], fun i k hk => ?_⟩
  obtain ⟨v, hv, hd⟩ := dpa_get (i := i) (d := dAsk k) ha (by rw [List.getElem?_map, hk]; rfl)
  obtain ⟨p, rfl, ht⟩ := dp_tints hd
  exact ⟨p, hv, ht, hd⟩
theorem dp_disk {K : PySem.W.Frag} {H : Hp} {v : V} {d : Disk} (h : Dp K H v (dDisk d)) : ∃ a, v = .ref a ∧ SqT K H a [.int d.tr, .int d.sc, .int d.pa, .int d.he] := dp_tints h

/-! ### all but what stands at r stays -/
def SameBut (r : Addr) (H H' : Hp) : Prop := ∀ b o, b ≠ r → H b = some o → H' b = some o
theorem sb_refl {r : Addr} {H : Hp} : SameBut r H H := fun _ _ _ e => e
theorem sb_of {r : Addr} {H H' : Hp} (s : Same H H') : SameBut r H H' := fun b o _ e => s b o e
theorem sb_trans {r : Addr} {H H1 H2 : Hp} (a : SameBut r H H1) (b : SameBut r H1 H2) : SameBut r H H2 := fun c o n e => b c o n (a c o n e)
theorem sb_upd {r : Addr} {H H' : Hp} {o : HO} (s : SameBut r H H') : SameBut r H (upd H' r o) := fun b x n e => by
  rw [upd_ne n]
  exact s b x n e
theorem sb_new {r p : Addr} {H H' : Hp} {o : HO} (s : SameBut r H H') (h : H' p = none) : SameBut r H (upd H' p o) := fun b x n e => by
  rw [upd_ne (ne_of_none (s b x n e) h)]
  exact s b x n e
theorem sb_old {r p : Addr} {H H' : Hp} {o : HO} (s : SameBut r H H') (h : H p = none) : SameBut r H (upd H' p o) := fun b x n e => by
  rw [upd_ne (ne_of_none e h)]
  exact s b x n e
theorem sb_wo {r : Addr} {H H' : Hp} (s : SameBut r H H') : Same (wo H r) (wo H' r) := fun b o e => by
  by_cases h : b = r
  · rw [h, wo_at] at e
    cases e
  · rw [wo_ne h] at e
    rw [wo_ne h]
    exact s _ _ h e
theorem sb_free {r p : Addr} {H H' : Hp} (s : SameBut r H H') (n : p ≠ r) (h : H' p = none) : H p = none := by
  cases e : H p with
  | none => rfl
  | some o =>
    rw [s p o n e] at h
    cases h
theorem wo2_step {r F : Addr} {H H' : Hp} (s : ∀ b o, b ≠ r → b ≠ F → H b = some o → H' b = some o) : Same (wo (wo H r) F) (wo (wo H' r) F) := fun b o e => by
  have n1 : b ≠ F := fun z => by
    rw [z, wo_at] at e
    cases e
  rw [wo_ne n1] at e
  have n2 : b ≠ r := fun z => by
    rw [z, wo_at] at e
    cases e
  rw [wo_ne n2] at e
  rw [wo_ne n1, wo_ne n2]
  exact s b o n2 n1 e
/-- what is new in H', besides F -/
def fr (H H' : Hp) (F : Addr) : Hp := wo (nw H H') F
theorem fr_step {H H1 H2 : Hp} {F : Addr} (s : SameBut F H1 H2) : Same (fr H H1 F) (fr H H2 F) := fun b o e => by
  have n : b ≠ F := fun z => by
    unfold fr at e
    rw [z, wo_at] at e
    cases e
  unfold fr at e ⊢
  rw [wo_ne n] at e
  rw [wo_ne n]
  obtain ⟨h1, h2⟩ := nw_of e
  rw [nw_none h1]
  exact s _ _ n h2
theorem fr_at {H H' : Hp} {F p : Addr} {o : HO} (n : p ≠ F) (h : H p = none) (e : H' p = some o) : fr H H' F p = some o := by
  unfold fr
  rw [wo_ne n, nw_none h]
  exact e
theorem fr_nw {H H' : Hp} {F : Addr} : Same (fr H H' F) (nw H H') := wo_sub
theorem fr_sub {H H' : Hp} {F : Addr} : Same (fr H H' F) H' := wo_sub.trans nw_sub

/-- what is new in H', besides F and W -/
def fr2 (H H' : Hp) (F W : Addr) : Hp := wo (fr H H' F) W
theorem fr2_step {H H1 H2 : Hp} {F W : Addr} (s : ∀ b o, b ≠ F → b ≠ W → H1 b = some o → H2 b = some o) : Same (fr2 H H1 F W) (fr2 H H2 F W) := fun b o e => by
  have n1 : b ≠ W := fun z => by
    unfold fr2 at e
    rw [z, wo_at] at e
    cases e
  unfold fr2 at e ⊢
  rw [wo_ne n1] at e
  rw [wo_ne n1]
  have n2 : b ≠ F := fun z => by
    unfold fr at e
    rw [z, wo_at] at e
    cases e
  unfold fr at e ⊢
  rw [wo_ne n2] at e
  rw [wo_ne n2]
  obtain ⟨h1, h2⟩ := nw_of e
  rw [nw_none h1]
  exact s _ _ n2 n1 h2
theorem fr2_at {H H' : Hp} {F W p : Addr} {o : HO} (n : p ≠ F) (n2 : p ≠ W) (h : H p = none) (e : H' p = some o) : fr2 H H' F W p = some o := by
  unfold fr2
  rw [wo_ne n2]
  exact fr_at n h e

/-! ### orders: numbers -/
def nints (os : List Nat) : List Int := os.map fun (i : Nat) => (i : Int)
theorem nints_len (os : List Nat) : (nints os).length = os.length := List.length_map ..
theorem nints_at {os : List Nat} {i : Nat} {x : V} (h : ((nints os).map V.int)[i]? = some x) : ∃ n, os[i]? = some n ∧ x = V.int (n : Int) := by
  unfold nints at h
  rw [List.map_map, List.getElem?_map] at h
  cases e : os[i]? with
  | none =>
    rw [e] at h
    cases h
  | some n =>
    rw [e] at h
    exact ⟨n, rfl, (Option.some.inj h).symm⟩
theorem nints_get {os : List Nat} {i n : Nat} (h : os[i]? = some n) : ((nints os).map V.int)[i]? = some (V.int (n : Int)) := by
  unfold nints
  rw [List.map_map, List.getElem?_map, h]
  rfl
theorem take_more {α : Type} : ∀ {l : List α} {i : Nat} {x : α}, l[i]? = some x → l.take (i + 1) = l.take i ++ [x]
  | [], i, x, h => by simp at h
  | a :: l, 0, x, h => by
    have e : a = x := Option.some.inj h
    subst e
    rfl
  | a :: l, i + 1, x, h => by
    have ih := take_more (l := l) (i := i) (x := x) h
    show a :: l.take (i + 1) = a :: l.take i ++ [x]
    rw [ih]
    rfl
theorem getD_of {α : Type} {l : List α} {i : Nat} {x d : α} (h : l[i]? = some x) : l.getD i d = x := by
  rw [List.getD_eq_getElem?_getD, h]
  rfl
/-- a rising list of the numbers below n, in any order, is 0, 1, .. -/
theorem rising_range {n : Nat} {ns : List Int} {os : List Nat} (p : ns.Perm (nints os)) (q : os.Perm (List.range n)) (r : ns.Pairwise (· ≤ ·)) : ns = nints (List.range n) := by
  have p2 : ns.Perm (nints (List.range n)) := p.trans (q.map _)
  refine List.Perm.eq_of_pairwise (le := fun a b : Int => a ≤ b) (fun a b _ _ h1 h2 => Int.le_antisymm h1 h2) r ?_ p2
  unfold nints
  rw [List.pairwise_map]
  exact List.pairwise_le_range.imp fun h => by exact_mod_cast h
theorem rg_nints (n : Nat) : rgV 0 (n : Int) = (nints (List.range n)).map V.int := by
  unfold rgV nints
  rw [List.map_map]
  have e : ((n : Int) - 0).toNat = n := by omega
  rw [e]
  refine List.map_congr_left fun i _ => ?_
  show V.int (0 + (i : Int)) = V.int (i : Int)
  rw [Int.zero_add]
theorem canLay_ints : ∀ ns : List Int, PyData.canLayAll0 (ns.map PyData.int) = true
  | [] => by simp [PyData.canLayAll0]
  | n :: r => by simp [PyData.canLayAll0, PyData.canLay0, canLay_ints r]
theorem shaped_ints (ns : List Int) : SeqAt.shaped (.list (ns.map PyData.int)) = true := by
  unfold SeqAt.shaped
  simp [PyData.canLay0, canLay_ints, PyData.depth, PySem.W.depth_ints]
theorem shaped_tints (ns : List Int) : SeqAt.shaped (.tuple (ns.map PyData.int)) = true := by
  unfold SeqAt.shaped
  simp [PyData.canLay0, canLay_ints, PyData.depth, PySem.W.depth_ints]

theorem canLay_asks : ∀ l : List Ask, PyData.canLayAll0 (l.map dAsk) = true
  | [] => by simp [PyData.canLayAll0]
  | n :: r => by simp [PyData.canLayAll0, PyData.canLay0, dAsk, canLay_asks r]
theorem depth_asks : ∀ l : List Ask, PyData.depthAll (l.map dAsk) ≤ 1
  | [] => by simp [PyData.depthAll]
  | n :: r => by
    have h := depth_asks r
    have e : PyData.depth (dAsk n) = 1 := by
      unfold dAsk
      rw [PyData.depth, PySem.W.depth_ints]
    rw [List.map_cons, PyData.depthAll, e]
    omega
theorem shaped_asks (l : List Ask) : SeqAt.shaped (dAsks l) = true := by
  have := depth_asks l
  unfold SeqAt.shaped
  simp [PyData.canLay0, canLay_asks, PyData.depth, dAsks]
  omega

/-! ### the row of the script: (script, place, mixed) -/
/-- the script: read, never written -/
def ScrAt (K : PySem.W.Frag) (H : Hp) (a : Addr) (ns : List Int) : Prop :=
  (∃ o, H a = some (.frz o (.lst (ns.map V.int)))) ∨
    ∃ (o : Obj) (its : Array Value) (n : Nat), K.lookup a = some o ∧ o.cls = .type "list" ∧ o.dict = none ∧ o.data = .seq its n ∧ its.size ≤ sizeLine ∧ Vals (ns.map V.int) its.toList
theorem ScrAt.sql {K : PySem.W.Frag} {H : Hp} {a : Addr} {ns : List Int} (h : ScrAt K H a ns) : SqL K H a (ns.map V.int) := by
  rcases h with ⟨o, h⟩ | h
  · exact .inl (.inr ⟨o, h⟩)
  · exact .inr h
theorem scr_of {K : PySem.W.Frag} {H : Hp} {a : Addr} {ns : List Int} (hO : Only H) (h : SqL K H a (ns.map V.int)) : ScrAt K H a ns := by
  rcases h with (h | ⟨o, h⟩) | h
  · rcases hO a with e | ⟨o, xs, e⟩
    · rw [e] at h
      cases h
    · rw [e] at h
      cases h
  · exact .inl ⟨o, h⟩
  · exact .inr h
theorem ScrAt.but {K : PySem.W.Frag} {H H' : Hp} {a : Addr} {ns : List Int} (h : ScrAt K H a ns) (s : Same H H') : ScrAt K H' a ns := by
  rcases h with ⟨o, h⟩ | h
  · exact .inl ⟨o, s _ _ h⟩
  · exact .inr h
theorem ScrAt.put {K : PySem.W.Frag} {H : Hp} {a b : Addr} {ns : List Int} {xs : List V} {o : HO} (h : ScrAt K H a ns) (e : H b = some (.lst xs)) : ScrAt K (upd H b o) a ns := by
  rcases h with ⟨x, h⟩ | h
  · have n : a ≠ b := ne_of h e (by intro z; cases z)
    exact .inl ⟨x, by rw [upd_ne n]; exact h⟩
  · exact .inr h
theorem ScrAt.of {K : PySem.W.Frag} {H H' : Hp} {a : Addr} {ns : List Int} (h : ScrAt K H a ns) (s : ∀ b o u, H b = some (.frz o u) → H' b = some (.frz o u)) : ScrAt K H' a ns := by
  rcases h with ⟨x, h⟩ | h
  · exact .inl ⟨x, s _ _ _ h⟩
  · exact .inr h
def RowAt (K : PySem.W.Frag) (H : Hp) (r : Addr) : Prop := ∃ (a : Addr) (ns : List Int) (pos mix : Int), 0 ≤ pos ∧ H r = some (.lst [.ref a, .int pos, .int mix]) ∧ ScrAt K H a ns
theorem RowAt.but {K : PySem.W.Frag} {H H' : Hp} {r : Addr} (h : RowAt K H r) (s : Same H H') : RowAt K H' r := by
  obtain ⟨a, ns, pos, mix, h1, h2, h3⟩ := h
  exact ⟨a, ns, pos, mix, h1, s _ _ h2, h3.but s⟩
theorem RowAt.put {K : PySem.W.Frag} {H : Hp} {r b : Addr} {xs : List V} {o : HO} (h : RowAt K H r) (n : b ≠ r) (e : H b = some (.lst xs)) : RowAt K (upd H b o) r := by
  obtain ⟨a, ns, pos, mix, h1, h2, h3⟩ := h
  exact ⟨a, ns, pos, mix, h1, by rw [upd_ne n.symm]; exact h2, h3.put e⟩
theorem row_start {K : PySem.W.Frag} {H : Hp} {a r : Addr} {ns : List Int} (h : ScrAt K H a ns) (e : H r = none) : RowAt K (upd H r (.lst [.ref a, .int 0, .int 0])) r := ⟨a, ns, 0, 0, Int.le_refl _, upd_same, h.but (same_new e)⟩
theorem same_sb {G H H' : Hp} {r : Addr} (s : Same G H) (e : G r = none) (b : SameBut r H H') : Same G H' := fun c o q => b c o (ne_of_none q e) (s _ _ q)
theorem RowAt.some {K : PySem.W.Frag} {H : Hp} {r : Addr} (h : RowAt K H r) : ∃ o, H r = Option.some o := by
  obtain ⟨a, ns, pos, mix, h1, h2, h3⟩ := h
  exact ⟨_, h2⟩
theorem RowAt.ne {K : PySem.W.Frag} {H : Hp} {r p : Addr} (h : RowAt K H r) (e : H p = none) : p ≠ r := fun z => by
  obtain ⟨o, h⟩ := h.some
  rw [z, h] at e
  cases e

/-! ### max(ns, default=0) -/
def maxl : List Int → Int
  | [] => 0
  | n :: r => r.foldl max n
theorem reads_int {h : Heap} {v : Value} {n : Int} {as : List Addr} (r : Reads h v (.int n) as) : ∃ t, v = .int n t := by
  cases r
  exact ⟨_, rfl⟩
theorem alike_ints_all (ns : List Int) : PySem.W.AlikeAll (ns.map PyData.int) := by
  refine ⟨fun x hx y hy => ?_, fun x hx => ?_⟩
  · obtain ⟨i, _, rfl⟩ := List.mem_map.mp hx
    obtain ⟨j, _, rfl⟩ := List.mem_map.mp hy
    simp [PySem.W.alike]
  · obtain ⟨i, _, rfl⟩ := List.mem_map.mp hx
    exact fun z => by cases z
def rMaxD0 (K : PySem.W.Frag) : List V → List V → Hp → VK → Prop := fun vs zs H Q => ∃ (a : Addr) (ns : List Int), vs = [V.ref a] ∧ zs = [.int 0] ∧ SqL K H a (ns.map V.int) ∧ Q (.int (maxl ns)) H
section
variable {X : Cx}
theorem cr_maxD0 (hc : X.calm = true) (hu : X.A.units + 1 < cLine) : CallRK X (.builtin "max") [Str.ofString "default"] (rMaxD0 X.K) := by
  intro pins s σ H xs zs us ws Q I r rz h
  obtain ⟨a, ns, rfl, rfl, hs, q⟩ := h
  obtain ⟨its, rv, hl, _⟩ := I.list hs
  rw [Vals.ref1 r]
  cases rz with
  | cons rz1 rz2 =>
    cases rz2
    obtain ⟨t, rfl⟩ := rz1
    obtain ⟨as, hr⟩ := Dp.readsAll I (ns.map PyData.int) _ its (dpa_ints ns) rv
    refine PySem.W.max_list_default (I.ok.hd hc) hl.isList (by simpa using hr) (alike_ints_all ns) (by rw [PySem.W.depth_ints]; exact hu) (fun e h' tk hk => ?_) fun y ys i v h' tk bs e hv hread hk => ?_
    · have e0 : ns = [] := by
        cases ns with
        | nil => rfl
        | cons n r => cases e
      subst e0
      exact ⟨.int 0, H, I.kept hk, ⟨_, rfl⟩, q⟩
    · obtain ⟨n, r, rfl, rfl, rfl⟩ : ∃ n r, ns = n :: r ∧ y = .int n ∧ ys = r.map PyData.int := by
        cases ns with
        | nil => cases e
        | cons n r =>
          rw [List.map_cons] at e
          injection e with e1 e2
          exact ⟨n, r, rfl, e1.symm, e2.symm⟩
      rw [PySem.W.maxD_ints] at hread
      obtain ⟨t', rfl⟩ := reads_int hread
      exact ⟨.int (maxl (n :: r)), H, I.kept hk, ⟨_, rfl⟩, q⟩
end
end Ag

namespace Ag
open PySem PySem.Spec PyProof.Rows L2

/-! ### the mathematics: when an ask is done -/
def iabs (i : Int) : Int := if i < 0 then -i else i
def imax (i j : Int) : Int := if j > i then j else i
def serve (d : Disk) (now here : Int) (a : Ask) : Int :=
  imax now a.1 + iabs (a.2.1 - here) * d.pa + (a.2.2 - (imax now a.1 + iabs (a.2.1 - here) * d.pa)) % d.sc + 1
theorem iabs_nn (i : Int) : 0 ≤ iabs i := by
  unfold iabs
  split <;> omega
theorem imax_l (i j : Int) : i ≤ imax i j := by
  unfold imax
  split <;> omega
theorem imax_r (i j : Int) : j ≤ imax i j := by
  unfold imax
  split <;> omega
theorem serve_lb {d : Disk} (g : GoodDisk d) (now here : Int) (a : Ask) : imax now a.1 + 1 ≤ serve d now here a := by
  unfold serve
  have h1 : 0 ≤ iabs (a.2.1 - here) * d.pa := Int.mul_nonneg (iabs_nn _) (by have := g.p1; omega)
  have h2 := Int.emod_nonneg (a.2.2 - (imax now a.1 + iabs (a.2.1 - here) * d.pa)) (b := d.sc) (by have := g.s1; omega)
  omega
/-- rows: (number, when it is done), in an order -/
def rowsOf (d : Disk) (asks : List Ask) : Int → Int → List Nat → List (Nat × Int)
  | _, _, [] => []
  | now, here, i :: r => (i, serve d now here (asks.getD i (0, 0, 0))) :: rowsOf d asks (serve d now here (asks.getD i (0, 0, 0))) (asks.getD i (0, 0, 0)).2.1 r
def dRow (r : Nat × Int) : PyData := .tuple ([(r.1 : Int), r.2].map PyData.int)
def endOf (d : Disk) (asks : List Ask) : Int → Int → List Nat → Int × Int
  | now, here, [] => (now, here)
  | now, here, i :: r => endOf d asks (serve d now here (asks.getD i (0, 0, 0))) (asks.getD i (0, 0, 0)).2.1 r
theorem rowsOf_snoc (d : Disk) (asks : List Ask) (i : Nat) : ∀ (r : List Nat) (now here : Int), rowsOf d asks now here (r ++ [i]) = rowsOf d asks now here r ++ [(i, serve d (endOf d asks now here r).1 (endOf d asks now here r).2 (asks.getD i (0, 0, 0)))]
  | [], _, _ => rfl
  | j :: r, now, here => by
    show _ :: rowsOf d asks _ _ (r ++ [i]) = _
    rw [rowsOf_snoc d asks i r]
    rfl
theorem endOf_snoc (d : Disk) (asks : List Ask) (i : Nat) : ∀ (r : List Nat) (now here : Int), endOf d asks now here (r ++ [i]) = (serve d (endOf d asks now here r).1 (endOf d asks now here r).2 (asks.getD i (0, 0, 0)), (asks.getD i (0, 0, 0)).2.1)
  | [], _, _ => rfl
  | j :: r, now, here => endOf_snoc d asks i r _ _
theorem rowsOf_len (d : Disk) (asks : List Ask) : ∀ (r : List Nat) (now here : Int), (rowsOf d asks now here r).length = r.length
  | [], _, _ => rfl
  | j :: r, now, here => by
    show (rowsOf d asks _ _ r).length + 1 = r.length + 1
    rw [rowsOf_len d asks r]
theorem rowsOf_fst (d : Disk) (asks : List Ask) : ∀ (r : List Nat) (now here : Int), (rowsOf d asks now here r).map (·.1) = r
  | [], _, _ => rfl
  | j :: r, now, here => by
    show j :: (rowsOf d asks _ _ r).map (·.1) = j :: r
    rw [rowsOf_fst d asks r]
/-- how far the arm goes -/
def wayOf (asks : List Ask) : Int → List (Nat × Int) → Int
  | _, [] => 0
  | here, r :: rest => iabs ((asks.getD r.1 (0, 0, 0)).2.1 - here) + wayOf asks (asks.getD r.1 (0, 0, 0)).2.1 rest
def hereOf (asks : List Ask) : Int → List (Nat × Int) → Int
  | here, [] => here
  | _, r :: rest => hereOf asks (asks.getD r.1 (0, 0, 0)).2.1 rest
theorem wayOf_snoc (asks : List Ask) (x : Nat × Int) : ∀ (rs : List (Nat × Int)) (here : Int), wayOf asks here (rs ++ [x]) = wayOf asks here rs + iabs ((asks.getD x.1 (0, 0, 0)).2.1 - hereOf asks here rs)
  | [], here => by
    show iabs _ + 0 = 0 + iabs _
    simp [hereOf]
  | r :: rs, here => by
    show iabs _ + wayOf asks _ (rs ++ [x]) = iabs _ + wayOf asks _ rs + _
    rw [wayOf_snoc asks x rs]
    simp only [hereOf]
    omega
theorem hereOf_snoc (asks : List Ask) (x : Nat × Int) : ∀ (rs : List (Nat × Int)) (here : Int), hereOf asks here (rs ++ [x]) = (asks.getD x.1 (0, 0, 0)).2.1
  | [], here => rfl
  | r :: rs, here => hereOf_snoc asks x rs _
def waitOf (asks : List Ask) (r : Nat × Int) : Int := r.2 - (asks.getD r.1 (0, 0, 0)).1
def waitsOf (asks : List Ask) (rs : List (Nat × Int)) : List Int := rs.map (waitOf asks)
/-- (way, longest, all) -/
def costsOf (d : Disk) (asks : List Ask) (rs : List (Nat × Int)) : Int × Int × Int := (wayOf asks d.he rs, maxl (waitsOf asks rs), (waitsOf asks rs).sum)
def dCosts (c : Int × Int × Int) : PyData := .tuple ([c.1, c.2.1, c.2.2].map PyData.int)
def dRes (rs : List (Nat × Int)) (c : Int × Int × Int) : PyData := .tuple [.list (rs.map dRow), dCosts c]
theorem foldl_max_le (m : Int) : ∀ (l : List Int) (n : Int), m ≤ n → m ≤ l.foldl max n
  | [], n, h => h
  | x :: r, n, h => foldl_max_le m r (max n x) (by omega)
/-- max([0] + waits) is the same where no wait is below 0 -/
theorem maxl_zero : ∀ (l : List Int), (∀ x ∈ l, 0 ≤ x) → maxl (0 :: l) = maxl l
  | [], _ => rfl
  | x :: r, h => by
    show r.foldl max (max 0 x) = r.foldl max x
    have hx := h x List.mem_cons_self
    rw [show max 0 x = x by omega]
theorem end_here (d : Disk) (asks : List Ask) : ∀ (r : List Nat) (now here : Int), (endOf d asks now here r).2 = hereOf asks here (rowsOf d asks now here r)
  | [], _, _ => rfl
  | i :: r, now, here => end_here d asks r _ _
theorem rows_waits {d : Disk} (g : GoodDisk d) (asks : List Ask) : ∀ (r : List Nat) (now here : Int), ∀ x ∈ waitsOf asks (rowsOf d asks now here r), 1 ≤ x
  | [], _, _, x, hx => by simp [rowsOf, waitsOf] at hx
  | i :: r, now, here, x, hx => by
    unfold rowsOf waitsOf at hx
    rw [List.map_cons, List.mem_cons] at hx
    rcases hx with rfl | hx
    · have h1 := serve_lb g now here (asks.getD i (0, 0, 0))
      have h2 := imax_r now (asks.getD i (0, 0, 0)).1
      show 1 ≤ serve d now here (asks.getD i (0, 0, 0)) - (asks.getD i (0, 0, 0)).1
      omega
    · exact rows_waits g asks r _ _ x hx
/-! ### step by step: what the law does -/
theorem iabs_step {t h : Int} (ne : h ≠ t) : iabs (t - (h + (if t < h then -1 else 1))) = iabs (t - h) - 1 := by
  unfold iabs
  split <;> split <;> split <;> omega
theorem emod_step {s n c : Int} (hc : 0 < c) (hs0 : 0 ≤ s) (hs : s < c) (ne : n % c ≠ s) : (s - (n + 1)) % c = (s - n) % c - 1 ∧ 0 < (s - n) % c := by
  have h0 := Int.emod_nonneg (s - n) (b := c) (by omega)
  have h1 := Int.emod_lt_of_pos (s - n) hc
  have hz : (s - n) % c ≠ 0 := fun e => by
    have d : c ∣ s - n := Int.dvd_of_emod_eq_zero e
    obtain ⟨k, hk⟩ := d
    have e2 : n = s + c * (-k) := by
      rw [Int.mul_neg]
      omega
    rw [e2, Int.add_mul_emod_self_left, Int.emod_eq_of_lt hs0 hs] at ne
    exact ne rfl
  refine ⟨?_, by omega⟩
  have e : s - (n + 1) = ((s - n) % c - 1) + c * ((s - n) / c) := by
    have := Int.mul_ediv_add_emod (s - n) c
    omega
  rw [e, Int.add_mul_emod_self_left]
  exact Int.emod_eq_of_lt (by omega) (by omega)
theorem emod_end {s n c : Int} (hs : n % c = s) : (s - n) % c = 0 := by
  rw [← hs]
  have := Int.mul_ediv_add_emod n c
  have e : n % c - n = 0 + c * (-(n / c)) := by
    rw [Int.mul_neg]
    omega
  rw [e, Int.add_mul_emod_self_left]
  simp
end Ag

namespace Ag
open PySem PySem.Spec PyProof.Rows L2

/-! ### min of alike data: the first of the least -/
theorem minD_mem (x : PyData) (xs : List PyData) : PySem.W.minD x xs ∈ x :: xs := by
  have go : ∀ (xs : List PyData) (x : PyData), xs.foldl (fun a y => if PySem.W.dataLt y a then y else a) x ∈ x :: xs := by
    intro xs
    induction xs with
    | nil => intro x; exact List.mem_cons_self
    | cons y r ih =>
      intro x
      show r.foldl _ (if PySem.W.dataLt y x then y else x) ∈ x :: y :: r
      have h := ih (if PySem.W.dataLt y x then y else x)
      rcases List.mem_cons.mp h with h | h
      · rw [h]
        split
        · exact List.mem_cons_of_mem _ List.mem_cons_self
        · exact List.mem_cons_self
      · exact List.mem_cons_of_mem _ (List.mem_cons_of_mem _ h)
  exact go xs x
/-- min(xs): some item whose data is the least -/
def rMinD (K : PySem.W.Frag) (A : Around) : List V → Hp → VK → Prop := fun vs H Q => ∃ (a : Addr) (xs : List V) (d : PyData) (ds : List PyData), vs = [V.ref a] ∧ SqL K H a xs ∧ DpAll K H xs (d :: ds) ∧ PySem.W.AlikeAll (d :: ds) ∧ A.units + 1 + PyData.depthAll (d :: ds) < cLine ∧
  ∀ (i : Nat) (v : V), xs[i]? = some v → (d :: ds)[i]? = some (PySem.W.minD d ds) → Q v H
section
variable {X : Cx}
theorem cr_minD (hc : X.calm = true) : CallR X (.builtin "min") (rMinD X.K X.A) := by
  intro pins s σ H xs us Q I r h
  obtain ⟨a, xs, d, ds, rfl, hs, hda, hal, hu, q⟩ := h
  obtain ⟨its, rv, hl, _⟩ := I.list hs
  rw [Vals.ref1 r]
  obtain ⟨as, hr⟩ := Dp.readsAll I (d :: ds) _ its hda rv
  refine PySem.W.min_list_data (I.ok.hd hc) hl.isList (by simpa using hr) hal hu fun i v h' tk bs hv hread hk => ?_
  have hv' : its[i]? = some v := by simpa using hv
  have hlen := rv.length
  obtain ⟨x, hx⟩ : ∃ x, xs[i]? = some x := by
    have := (List.getElem?_eq_some_iff.mp hv').1
    exact ⟨_, List.getElem?_eq_getElem (by omega)⟩
  obtain ⟨u, hu', ru⟩ := rv.get hx
  rw [hv'] at hu'
  cases hu'
  have I' : Inv X pins σ H { s with heap := h', toks := tk } := I.kept hk
  obtain ⟨e, he, hed⟩ := dpa_get' hda hx
  obtain ⟨as', hr'⟩ := Dp.reads I' e x v hed ru
  have em : e = PySem.W.minD d ds := PySem.W.alike_unique e _ v as' bs (hal.1 e (List.mem_of_getElem? he) _ (minD_mem d ds)) hr' hread
  rw [em] at he
  exact ⟨x, H, I', ru, q i x hx he⟩
end
/-! ### a number in an order -/
theorem inV_nints (n : Nat) : ∀ os : List Nat, inV (.int (n : Int)) ((nints os).map V.int) = decide (n ∈ os)
  | [] => by simp [inV, nints]
  | m :: r => by
    have ih := inV_nints n r
    unfold inV nints at ih ⊢
    rw [List.map_cons, List.map_cons, List.any_cons, ih]
    show ((m : Int) == (n : Int) || decide (n ∈ r)) = decide (n ∈ m :: r)
    by_cases h : n = m
    · subst h
      simp
    · have : ((m : Int) == (n : Int)) = false := by
        simp
        omega
      rw [this]
      simp [h]
theorem flat_nints : ∀ os : List Nat, ((nints os).map V.int).all flatV = true
  | [] => rfl
  | m :: r => by
    have ih := flat_nints r
    unfold nints at ih ⊢
    rw [List.map_cons, List.map_cons, List.all_cons, ih]
    rfl
/-! ### all orders, one number more a turn -/
def moreOf (n : Nat) (os : List Nat) : List (List Nat) := ((List.range n).filter fun i => decide (i ∉ os)).map fun i => os ++ [i]
def ordersK (n : Nat) : Nat → List (List Nat)
  | 0 => [[]]
  | k + 1 => (ordersK n k).flatMap (moreOf n)
theorem moreOf_mem {n : Nat} {os os' : List Nat} : os' ∈ moreOf n os ↔ ∃ i, i < n ∧ i ∉ os ∧ os' = os ++ [i] := by
  unfold moreOf
  rw [List.mem_map]
  constructor
  · rintro ⟨i, hi, rfl⟩
    rw [List.mem_filter, List.mem_range, decide_eq_true_eq] at hi
    exact ⟨i, hi.1, hi.2, rfl⟩
  · rintro ⟨i, h1, h2, rfl⟩
    exact ⟨i, by rw [List.mem_filter, List.mem_range, decide_eq_true_eq]; exact ⟨h1, h2⟩, rfl⟩
structure IsOrd (n k : Nat) (os : List Nat) : Prop where
  len : os.length = k
  lt : ∀ i ∈ os, i < n
  nd : os.Nodup
theorem ordersK_is {n : Nat} : ∀ {k : Nat} {os : List Nat}, os ∈ ordersK n k → IsOrd n k os
  | 0, os, h => by
    rw [List.mem_singleton.mp (show os ∈ [[]] from h)]
    exact ⟨rfl, fun i hi => absurd hi (by simp), List.nodup_nil⟩
  | k + 1, os, h => by
    obtain ⟨o, ho, hm⟩ := List.mem_flatMap.mp h
    obtain ⟨i, h1, h2, rfl⟩ := moreOf_mem.mp hm
    have ih := ordersK_is ho
    refine ⟨by rw [List.length_append, ih.len]; rfl, fun j hj => ?_, ?_⟩
    · rcases List.mem_append.mp hj with hj | hj
      · exact ih.lt j hj
      · rw [List.mem_singleton.mp hj]
        exact h1
    · rw [List.nodup_append]
      refine ⟨ih.nd, by simp, fun a ha b hb => ?_⟩
      rw [List.mem_singleton.mp hb]
      exact fun e => h2 (e ▸ ha)
theorem ordersK_of {n : Nat} : ∀ {k : Nat} {os : List Nat}, IsOrd n k os → os ∈ ordersK n k
  | 0, os, h => by
    have e : os = [] := List.eq_nil_of_length_eq_zero h.len
    subst e
    exact List.mem_singleton.mpr rfl
  | k + 1, os, h => by
    have hne : os ≠ [] := fun e => by
      have := h.len
      rw [e] at this
      cases this
    obtain ⟨o, i, rfl⟩ : ∃ o i, os = o ++ [i] := ⟨os.dropLast, os.getLast hne, (List.dropLast_concat_getLast hne).symm⟩
    have hl := h.len
    rw [List.length_append] at hl
    have hl' : o.length = k := by
      simp at hl
      exact hl
    have nd := h.nd
    rw [List.nodup_append] at nd
    refine List.mem_flatMap.mpr ⟨o, ordersK_of ⟨hl', fun j hj => h.lt j (List.mem_append_left _ hj), nd.1⟩, moreOf_mem.mpr ⟨i, h.lt i (by simp), fun hi => nd.2.2 i hi i (by simp) rfl, rfl⟩⟩
theorem isOrd_range {n : Nat} : IsOrd n n (List.range n) := ⟨List.length_range, fun i hi => List.mem_range.mp hi, List.nodup_range⟩
theorem isOrd_take {n k : Nat} (h : k ≤ n) : IsOrd n k (List.range k) := ⟨List.length_range, fun i hi => by have := List.mem_range.mp hi; omega, List.nodup_range⟩
theorem ordersK_ne {n k : Nat} (h : k ≤ n) : ordersK n k ≠ [] := List.ne_nil_of_mem (ordersK_of (isOrd_take h))
theorem moreOf_len (n : Nat) (os : List Nat) : (moreOf n os).length ≤ n := by
  unfold moreOf
  rw [List.length_map]
  exact Nat.le_trans (List.length_filter_le _ _) (by rw [List.length_range]; exact Nat.le_refl _)
theorem flat_len {α β : Type} (f : α → List β) (c : Nat) : ∀ l : List α, (∀ x ∈ l, (f x).length ≤ c) → (l.flatMap f).length ≤ l.length * c
  | [], _ => by simp
  | x :: r, h => by
    rw [List.flatMap_cons, List.length_append, List.length_cons, Nat.add_mul, Nat.one_mul]
    have h1 := h x List.mem_cons_self
    have h2 := flat_len f c r fun y hy => h y (List.mem_cons_of_mem _ hy)
    omega
theorem ordersK_len (n : Nat) : ∀ k : Nat, (ordersK n k).length ≤ n ^ k
  | 0 => by simp [ordersK]
  | k + 1 => by
    have h := flat_len (moreOf n) n (ordersK n k) fun x _ => moreOf_len n x
    have ih := ordersK_len n k
    have h2 := Nat.mul_le_mul_right n ih
    rw [Nat.pow_succ]
    exact Nat.le_trans h h2
theorem ordersK_len6 {n k : Nat} (hn : n ≤ 6) (hk : k ≤ 6) : (ordersK n k).length ≤ 46656 := by
  refine Nat.le_trans (ordersK_len n k) ?_
  have h1 : n ^ k ≤ 6 ^ k := Nat.pow_le_pow_left hn k
  have h2 : 6 ^ k ≤ 6 ^ 6 := Nat.pow_le_pow_right (by decide) hk
  exact Nat.le_trans h1 (Nat.le_trans h2 (by decide))
/-! ### all waits together, and its least -/
def allOf (d : Disk) (l : List Ask) (os : List Nat) : Int := (waitsOf l (rowsOf d l 0 d.he os)).sum
theorem allOf_snoc (d : Disk) (l : List Ask) (os : List Nat) (i : Nat) : allOf d l (os ++ [i]) = allOf d l os + serve d (endOf d l 0 d.he os).1 (endOf d l 0 d.he os).2 (l.getD i (0, 0, 0)) - (l.getD i (0, 0, 0)).1 := by
  unfold allOf
  rw [rowsOf_snoc]
  unfold waitsOf
  rw [List.map_append, List.sum_append]
  show _ + ((serve d (endOf d l 0 d.he os).1 (endOf d l 0 d.he os).2 (l.getD i (0, 0, 0)) - (l.getD i (0, 0, 0)).1) + 0) = _
  omega
def dSum (d : Disk) (l : List Ask) (os : List Nat) : PyData := .tuple [.int (allOf d l os), .list ((nints os).map PyData.int)]
theorem alike_sums (d : Disk) (l : List Ask) (oss : List (List Nat)) : PySem.W.AlikeAll (oss.map (dSum d l)) := by
  refine ⟨fun x hx y hy => ?_, fun x hx => ?_⟩
  · obtain ⟨o, _, rfl⟩ := List.mem_map.mp hx
    obtain ⟨o', _, rfl⟩ := List.mem_map.mp hy
    simp [dSum, PySem.W.alike, PySem.W.alikeAll, PySem.W.alike_ints]
  · obtain ⟨o, _, rfl⟩ := List.mem_map.mp hx
    exact fun z => by cases z
theorem depth_sums (d : Disk) (l : List Ask) : ∀ oss : List (List Nat), PyData.depthAll (oss.map (dSum d l)) ≤ 2
  | [] => by simp [PyData.depthAll]
  | o :: r => by
    have h := depth_sums d l r
    have e : PyData.depth (dSum d l o) = 2 := by
      unfold dSum
      simp [PyData.depth, PyData.depthAll, PySem.W.depth_ints]
    rw [List.map_cons, PyData.depthAll, e]
    omega
/-- the least of all orders -/
def leastOf (d : Disk) (l : List Ask) : PyData := match (ordersK l.length l.length).map (dSum d l) with
  | [] => .none
  | x :: r => PySem.W.minD x r
theorem leastOf_eq {d : Disk} {l : List Ask} {x : PyData} {r : List PyData} (h : (ordersK l.length l.length).map (dSum d l) = x :: r) : leastOf d l = PySem.W.minD x r := by
  unfold leastOf
  rw [h]
end Ag

namespace Ag
open PySem PySem.Spec PyProof.Rows L2
theorem ite_eqb {b c : Bool} {A B : Prop} (e : b = c) (h : if c = true then A else B) : if b = true then A else B := by
  rw [e]
  exact h
/-! ### two lists side by side -/
def All2 {α β : Type} (R : α → β → Prop) : List α → List β → Prop
  | [], [] => True
  | a :: as, b :: bs => R a b ∧ All2 R as bs
  | _, _ => False
theorem all2_len {α β : Type} {R : α → β → Prop} : ∀ {as : List α} {bs : List β}, All2 R as bs → as.length = bs.length
  | [], [], _ => rfl
  | _ :: _, _ :: _, h => by simp only [List.length_cons, all2_len h.2]
  | [], _ :: _, h => h.elim
  | _ :: _, [], h => h.elim
theorem all2_mono {α β : Type} {R S : α → β → Prop} (k : ∀ a b, R a b → S a b) : ∀ {as : List α} {bs : List β}, All2 R as bs → All2 S as bs
  | [], [], _ => trivial
  | _ :: _, _ :: _, h => ⟨k _ _ h.1, all2_mono k h.2⟩
  | [], _ :: _, h => h.elim
  | _ :: _, [], h => h.elim
theorem all2_snoc {α β : Type} {R : α → β → Prop} {a : α} {b : β} (r : R a b) : ∀ {as : List α} {bs : List β}, All2 R as bs → All2 R (as ++ [a]) (bs ++ [b])
  | [], [], _ => ⟨r, trivial⟩
  | _ :: _, _ :: _, h => ⟨h.1, all2_snoc r h.2⟩
  | [], _ :: _, h => h.elim
  | _ :: _, [], h => h.elim
theorem all2_app {α β : Type} {R : α → β → Prop} {cs : List α} {ds : List β} (r : All2 R cs ds) : ∀ {as : List α} {bs : List β}, All2 R as bs → All2 R (as ++ cs) (bs ++ ds)
  | [], [], _ => r
  | _ :: _, _ :: _, h => ⟨h.1, all2_app r h.2⟩
  | [], _ :: _, h => h.elim
  | _ :: _, [], h => h.elim
theorem all2_at {α β : Type} {R : α → β → Prop} : ∀ {as : List α} {bs : List β} {i : Nat} {a : α}, All2 R as bs → as[i]? = some a → ∃ b, bs[i]? = some b ∧ R a b
  | [], [], _, _, _, e => by simp at e
  | _ :: _, _ :: _, 0, _, h, e => by simp at e; subst e; exact ⟨_, rfl, h.1⟩
  | _ :: _, _ :: _, i + 1, _, h, e => by
    obtain ⟨b, e1, r⟩ := all2_at (i := i) h.2 (by simpa using e)
    exact ⟨b, by simpa using e1, r⟩
  | [], _ :: _, _, _, h, _ => h.elim
  | _ :: _, [], _, _, h, _ => h.elim
theorem all2_at' {α β : Type} {R : α → β → Prop} : ∀ {as : List α} {bs : List β} {i : Nat} {b : β}, All2 R as bs → bs[i]? = some b → ∃ a, as[i]? = some a ∧ R a b
  | [], [], _, _, _, e => by simp at e
  | _ :: _, _ :: _, 0, _, h, e => by simp at e; subst e; exact ⟨_, rfl, h.1⟩
  | _ :: _, _ :: _, i + 1, _, h, e => by
    obtain ⟨b, e1, r⟩ := all2_at' (i := i) h.2 (by simpa using e)
    exact ⟨b, by simpa using e1, r⟩
  | [], _ :: _, _, _, h, _ => h.elim
  | _ :: _, [], _, _, h, _ => h.elim
theorem all2_dpa {K : PySem.W.Frag} {H : Hp} {β : Type} {R : V → β → Prop} {f : β → PyData} (k : ∀ v b, R v b → Dp K H v (f b)) : ∀ {vs : List V} {bs : List β}, All2 R vs bs → DpAll K H vs (bs.map f)
  | [], [], _ => .nil
  | _ :: _, _ :: _, h => .cons (k _ _ h.1) (all2_dpa k h.2)
  | [], _ :: _, h => h.elim
  | _ :: _, [], h => h.elim
/-- an order, as a list of its own -/
def OrdAt (G : Hp) (v : V) (os : List Nat) : Prop := ∃ o, v = .ref o ∧ G o = some (.lst ((nints os).map V.int))
theorem ordAt_same {G G' : Hp} {v : V} {os : List Nat} (s : Same G G') (h : OrdAt G v os) : OrdAt G' v os := by
  obtain ⟨o, e, h⟩ := h
  exact ⟨o, e, s _ _ h⟩
theorem ordAt_dp {K : PySem.W.Frag} {G : Hp} {v : V} {os : List Nat} (h : OrdAt G v os) : Dp K G v (.list ((nints os).map PyData.int)) := by
  obtain ⟨o, rfl, h⟩ := h
  exact dp_ints_of (SqL.of h)
/-- (waits, order) -/
def SumAt (d : Disk) (l : List Ask) (G : Hp) (v : V) (os : List Nat) : Prop := ∃ m o, v = .ref m ∧ G m = some (.tup [.int (allOf d l os), .ref o]) ∧ G o = some (.lst ((nints os).map V.int))
theorem sumAt_same {d : Disk} {l : List Ask} {G G' : Hp} {v : V} {os : List Nat} (s : Same G G') (h : SumAt d l G v os) : SumAt d l G' v os := by
  obtain ⟨m, o, e, h1, h2⟩ := h
  exact ⟨m, o, e, s _ _ h1, s _ _ h2⟩
theorem sumAt_dp {K : PySem.W.Frag} {d : Disk} {l : List Ask} {G : Hp} {v : V} {os : List Nat} (h : SumAt d l G v os) : Dp K G v (dSum d l os) := by
  obtain ⟨m, o, rfl, h1, h2⟩ := h
  exact .tup (SqT.of h1) (.cons (.int _) (.cons (dp_ints_of (SqL.of h2)) .nil))
/-- ((waits, order), now, here) -/
def LvlAt (d : Disk) (l : List Ask) (G : Hp) (v : V) (os : List Nat) : Prop := ∃ t m, v = .ref t ∧ G t = some (.tup [.ref m, .int (endOf d l 0 d.he os).1, .int (endOf d l 0 d.he os).2]) ∧ SumAt d l G (.ref m) os
theorem lvlAt_same {d : Disk} {l : List Ask} {G G' : Hp} {v : V} {os : List Nat} (s : Same G G') (h : LvlAt d l G v os) : LvlAt d l G' v os := by
  obtain ⟨t, m, e, h1, h2⟩ := h
  exact ⟨t, m, e, s _ _ h1, sumAt_same s h2⟩
theorem take_flat {α β : Type} {f : α → List β} {l : List α} {i : Nat} {x : α} (h : l[i]? = some x) : (l.take (i + 1)).flatMap f = (l.take i).flatMap f ++ f x := by
  rw [take_more h, List.flatMap_append]
  simp
def moreTo (k : Nat) (os : List Nat) : List (List Nat) := ((List.range k).filter fun i => decide (i ∉ os)).map fun i => os ++ [i]
theorem moreTo_in {k : Nat} {os : List Nat} (h : k ∈ os) : moreTo (k + 1) os = moreTo k os := by
  unfold moreTo
  rw [List.range_succ, List.filter_append]
  simp [h]
theorem moreTo_out {k : Nat} {os : List Nat} (h : k ∉ os) : moreTo (k + 1) os = moreTo k os ++ [os ++ [k]] := by
  unfold moreTo
  rw [List.range_succ, List.filter_append]
  simp [h]
theorem nints_snoc (os : List Nat) (n : Nat) : (nints os).map V.int ++ [V.int (n : Int)] = (nints (os ++ [n])).map V.int := by
  unfold nints
  rw [List.map_append, List.map_append]
  rfl
end Ag

namespace Ag
open PySem PySem.Spec PyProof.Rows L2 LamX NdefX
open PySem.W (hideAll hideAll_get hideAll_none hideAll_size of_hideAll)
/-! ### a wider base at a call -/
section
variable {P : Program} {w : World} {K : PySem.W.Frag} {mg : Str → Option Value} {base : Heap} {A : Around} {outer : List Env} {s : Shared} {H : Hp}
theorem funFrames_none {h base : Heap} : ∀ {l : List Env}, h.FunFrames base l → ∀ {b2 : Heap}, (∀ b ∈ frs l, b2.get? b = none) → h.FunFrames b2 l
  | [], _, _, _ => trivial
  | env :: r, hl, b2, hn => by
    obtain ⟨hk, ⟨L, o, hf, hn0, ho, hd⟩, hr⟩ := hl
    have hL : L ∈ frs (env :: r) := by unfold frs; rw [List.filterMap_cons, hf]; exact List.mem_cons_self
    exact ⟨hk, ⟨L, o, hf, hn L hL, ho, hd⟩, funFrames_none hr fun b hb => hn b (by unfold frs at hb ⊢; rw [List.filterMap_cons, hf]; exact List.mem_cons_of_mem _ hb)⟩
/-- all that stands untracked and is no frame may be taken into the base -/
theorem env0_rebase (e : Env0 P w K mg base A outer s H) : ∃ b2 : Heap, Env0 P w K mg b2 A outer s H ∧ (∀ b o, base.get? b = some o → b2.get? b = some o) ∧ ∀ b o, s.heap.get? b = some o → H b = none → b ∉ frs outer → b2.get? b = some o := by
  classical
  refine ⟨hideAll s.heap (frs outer ++ (List.range s.heap.objs.size).filter fun a => decide (H a ≠ none)), ?_⟩
  have up : ∀ b o, s.heap.get? b = some o → H b = none → b ∉ frs outer → (hideAll s.heap (frs outer ++ (List.range s.heap.objs.size).filter fun a => decide (H a ≠ none))).get? b = some o := fun b o h1 h2 h3 => by
    refine hideAll_get _ h1 fun hm => ?_
    rcases List.mem_append.mp hm with hm | hm
    · exact h3 hm
    · have := (List.mem_filter.mp hm).2
      simp [h2] at this
  have nofr : ∀ b ∈ frs outer, base.get? b = none := fun b hb => (e.funs.mem hb).1
  have old : ∀ b o, base.get? b = some o → (hideAll s.heap (frs outer ++ (List.range s.heap.objs.size).filter fun a => decide (H a ≠ none))).get? b = some o := fun b o h1 => by
    refine up b o (e.bs b o h1).1 (e.bs b o h1).2 fun hb => ?_
    rw [nofr b hb] at h1
    cases h1
  obtain ⟨kin, glob, ⟨mb, blt, blt2⟩, nolimit⟩ := e.mod
  refine ⟨⟨e.frames, ⟨kin.keeps old, glob.keeps old, ⟨mb, blt.keeps old, blt2⟩, nolimit.keeps old⟩, fun b o h1 => ?_, by rw [hideAll_size]; exact Nat.le_refl _, funFrames_none e.funs fun b hb => hideAll_none _ (List.mem_append_left _ hb), e.frf, e.hok, e.bare⟩, old, up⟩
  have h2 := of_hideAll _ h1
  refine ⟨h2, ?_⟩
  cases q : H b with
  | none => rfl
  | some o2 =>
    have hm : b ∈ frs outer ++ (List.range s.heap.objs.size).filter fun a => decide (H a ≠ none) := by
      refine List.mem_append_right _ (List.mem_filter.mpr ⟨List.mem_range.mpr (Heap.lt_size h2), ?_⟩)
      rw [q]
      simp
    rw [hideAll_none _ hm] at h1
    cases h1
end
/-! ### a lambda, run -/
abbrev lamO (F : NF) (params : Arguments) (body : Expr) (pm ctv : Value) : Obj := PySem.W.kla_obj "<lambda>" F.qual params body F.scope F.cl pm F.c ctv
section
variable {P : Program} {w : World} {K : PySem.W.Frag} {mg : Str → Option Value} {base : Heap} {A : Around} {outer : List Env} {s : Shared} {H : Hp} {N ps fr : List Str} {F : NF} {f : Addr} {params : Arguments} {body : Expr} {pm ctv : Value} {vs : List V} {us : List Value} {ws : List (Option V)} {k : Nat} {Q : VK} {t : TE}
theorem lam_run (S : NScope N ps fr F.scope) (hr : Room (k + 1) A) (e0 : Env0 P w K mg base A outer s H) (hf : s.heap.get? f = some (lamO F params body pm ctv)) (hc : H F.c = some (CodeO F.c F.qual)) (C : CellsAt F.cl fr ws s.heap H)
    (r : Vals vs us) (hl : vs.length = ps.length) (hb : bindArgs (PySem.W.kla_fn "<lambda>" F.qual params body F.scope F.cl pm (.ref F.c) ctv) ⟨us, []⟩ = pure (ps.zip us))
    (hbody : Room k (A.deeper (envF F f s.heap.objs.size)) → PE (ncx CX0 P w K mg base N F f A outer s H E0) body t) (q : t (startF N vs ws) H Q) : codeAny (model P w) A (.call (.ref f) ⟨us, []⟩) (CR CX0 outer P w H s Q E0) s := by
  have lim : s.heap.NoLimit := e0.mod.nolimit.keeps fun b o e => (e0.bs b o e).1
  refine PySem.W.kla_callFunE hr.depth hf rfl S.co S.gen rfl (codeO_at e0.hok hc) ?_
  rw [hb]
  refine wpAny_pure (wpAny_newFunctionEnv S.nocell (fun ⟨n, _⟩ hy => S.par n (List.of_mem_zip hy).1) (fun h₁ hns hsb => ⟨lim.fresh _ hsb, ?_⟩) S.kind)
  have kp : ∀ b o, s.heap.get? b = some o → h₁.get? b = some o := fun b o e => hsb.extBut b o (Nat.ne_of_lt (Heap.lt_size e)) (Heap.get?_push_of_some _ e)
  have I : Inv (ncx CX0 P w K mg base N F f A outer s H E0) [] (startF N vs ws) H { s with heap := h₁, toks := s.toks + (ps.zip us).length } := inv_startN S hr.hd e0 hl r C hns kp
  refine PySem.W.kla_codeExpr (wpAny_mono ((hbody (hr.deeper _)).run [] _ _ H Q I q) (fun v s' hq => ?_) fun e s' hq => hq)
  obtain ⟨w', H', J', rv, q⟩ := hq
  exact ⟨w', H', J'.os, J'.bare, J'.base, J'.hok, rv, q⟩
end

/-! ### a lambda and its cells in a base -/
structure LamB (base : Heap) (f : Addr) (F : NF) (params : Arguments) (body : Expr) (fr : List Str) (ws : List (Option V)) : Prop where
  fn : ∃ pm ctv, base.get? f = some (lamO F params body pm ctv)
  len : ws.length = fr.length
  all : ∀ y c, F.cl.lookup y = some c → ∃ v, base.IsCell c v
  inj : ∀ x y c, F.cl.lookup x = some c → F.cl.lookup y = some c → x = y
  has : ∀ (i : Nat) (y : Str), fr[i]? = some y → ∃ c, F.cl.lookup y = some c ∧ ∀ v, ws[i]? = some (some v) → ∃ u, L2.RelV v u ∧ base.IsCell c (some u)
section
variable {P : Program} {w : World} {K : PySem.W.Frag} {mg : Str → Option Value} {base b2 : Heap} {A : Around} {outer : List Env} {s : Shared} {H : Hp} {fr : List Str} {F : NF} {f : Addr} {params : Arguments} {body : Expr} {ws : List (Option V)}
theorem cell_up {base b2 : Heap} (up : ∀ b o, base.get? b = some o → b2.get? b = some o) {c : Addr} {v : Option Value} (h : base.IsCell c v) : b2.IsCell c v := let ⟨o, e, d⟩ := h; ⟨o, up _ _ e, d⟩
theorem LamB.cells (B : LamB base f F params body fr ws) (e : Env0 P w K mg base A outer s H) : CellsAt F.cl fr ws s.heap H :=
  ⟨B.len, fun y c h => by
    obtain ⟨v, o, ho, hd⟩ := B.all y c h
    exact ⟨(e.bs _ _ ho).2, v, o, (e.bs _ _ ho).1, hd⟩, B.inj, fun i y h => by
    obtain ⟨c, hc, hv⟩ := B.has i y h
    exact ⟨c, hc, fun v hv' => let ⟨u, ru, hu⟩ := hv v hv'; ⟨u, ru, cell_up (fun b o z => (e.bs b o z).1) hu⟩⟩⟩
theorem LamB.up (B : LamB base f F params body fr ws) (up : ∀ b o, base.get? b = some o → b2.get? b = some o) : LamB b2 f F params body fr ws :=
  ⟨let ⟨pm, ctv, h⟩ := B.fn; ⟨pm, ctv, up _ _ h⟩, B.len, fun y c h => let ⟨v, z⟩ := B.all y c h; ⟨v, cell_up up z⟩, B.inj, fun i y h => let ⟨c, hc, hv⟩ := B.has i y h; ⟨c, hc, fun v hv' => let ⟨u, ru, hu⟩ := hv v hv'; ⟨u, ru, cell_up up hu⟩⟩⟩
end
theorem lamB_made {X : Cx} {pins : List (Addr × Obj)} {σ : L2.St} {H : Hp} {s : Shared} {b2 : Heap} {f : Addr} {F : NF} {params : Arguments} {body : Expr} {fr : List Str} {js : List Nat} {pm ctv : Value} (I : Inv X pins σ H s) (hfn : ∀ y, X.fn y = true) (cp : Caps X F.cl fr js)
    (hf : s.heap.get? f = some (lamO F params body pm ctv)) (n : H f = none) (nf : f ∉ frs X.stack) (up : ∀ b o, s.heap.get? b = some o → H b = none → b ∉ frs X.stack → b2.get? b = some o) : LamB b2 f F params body fr (js.map (slotAt σ)) := by
  have C := cells_of I cp
  have nc : ∀ y c, F.cl.lookup y = some c → c ∉ frs X.stack := fun y c h hm => by
    have hx := cp.sub y c h
    rcases List.mem_cons.mp (I.stkSub c hm) with e | hb
    · exact I.cne y c hx e
    · have h1 := I.ok.cab y c (hfn y) hx
      obtain ⟨_, o, ho, _⟩ := I.ok.funs.mem hb
      exact absurd (Nat.lt_of_lt_of_le (Heap.lt_size ho) h1) (Nat.lt_irrefl _)
  refine ⟨⟨pm, ctv, up _ _ hf n nf⟩, C.len, fun y c h => ?_, C.inj, fun i y h => ?_⟩
  · obtain ⟨hn, v, o, ho, hd⟩ := C.all y c h
    exact ⟨v, o, up _ _ ho hn (nc y c h), hd⟩
  · obtain ⟨c, hc, hv⟩ := C.has i y h
    refine ⟨c, hc, fun v hv' => ?_⟩
    obtain ⟨u, ru, o, ho, hd⟩ := hv v hv'
    exact ⟨u, ru, o, up _ _ ho (C.all y c hc).1 (nc y c hc), hd⟩
/-! ### what a function of one number promises, at every base that widens this one -/
/-- its answer: a number (the heap as it was), or a new tuple -/
def ansI (g : Int → Int) (n : Int) (H : Hp) : VK := fun v H' => v = .int (g n) ∧ H' = H
def ansT (g : Int → List Int) (n : Int) (H : Hp) : VK := fun v H' => ∃ p, v = .ref p ∧ H p = none ∧ H' = upd H p (.tup ((g n).map V.int))
structure KeyFn (P : Program) (w : World) (K : PySem.W.Frag) (mg : Str → Option Value) (base : Heap) (k : Nat) (f : Addr) (dom : Int → Prop) (Ih : Hp → Prop) (ans : Int → Hp → VK) : Prop where
  fn : PySem.W.FnAt f base
  run : ∀ (b2 : Heap) (A : Around) (outer : List Env) (s : Shared) (H : Hp) (u : Value) (n : Int), (∀ b o, base.get? b = some o → b2.get? b = some o) → Room k A → Env0 P w K mg b2 A outer s H → Ih H → dom n → RelV (.int n) u →
    codeAny (model P w) A (.call (.ref f) ⟨[u], []⟩) (CR CX0 outer P w H s (ans n H) E0) s
section
variable {P : Program} {w : World} {K : PySem.W.Frag} {mg : Str → Option Value} {base : Heap} {k j : Nat} {f : Addr} {dom : Int → Prop} {Ih : Hp → Prop} {ans : Int → Hp → VK}
theorem keyFn_lam {N fr : List Str} {x : Str} {F : NF} {params : Arguments} {body : Expr} {ws : List (Option V)} (S : NScope N [x] fr F.scope) (B : LamB base f F params body fr ws) (hb : ∀ (pm ctv u : Value), bindArgs (PySem.W.kla_fn "<lambda>" F.qual params body F.scope F.cl pm (.ref F.c) ctv) ⟨[u], []⟩ = pure ([x].zip [u]))
    (hc : ∀ H, Ih H → H F.c = some (CodeO F.c F.qual))
    (hbody : ∀ (b2 : Heap) (A : Around) (outer : List Env) (s : Shared) (H : Hp) (n : Int), (∀ b o, base.get? b = some o → b2.get? b = some o) → Room k (A.deeper (envF F f s.heap.objs.size)) → Ih H → dom n →
      ∃ t, PE (ncx CX0 P w K mg b2 N F f A outer s H E0) body t ∧ t (startF N [.int n] ws) H (ans n H)) : KeyFn P w K mg base (k + 1) f dom Ih ans := by
  obtain ⟨pm, ctv, hf⟩ := B.fn
  refine ⟨⟨_, _, _, _, hf⟩, fun b2 A outer s H u n up hr e0 hI hd r => ?_⟩
  have C := (B.up up).cells e0
  have hfs := (e0.bs _ _ (up _ _ hf)).1
  by_cases hr' : Room k (A.deeper (envF F f s.heap.objs.size))
  · obtain ⟨t, ht, hq⟩ := hbody b2 A outer s H n up hr' hI hd
    exact lam_run S hr e0 hfs (hc H hI) C (.cons r .nil) rfl (hb pm ctv u) (fun _ => ht) hq
  · exact absurd (hr.deeper _) hr'
/-- f(e), f a name that holds such a function -/
theorem pe_key {X : Cx} {b0 : Heap} {i : Nat} {x : Str} {p pos : Pos} {e : Expr} {t : TA} (Fn : KeyFn X.prog X.w X.K X.mg b0 k f dom Ih ans) (up : ∀ b o, b0.get? b = some o → X.base.get? b = some o) (hr : Room j X.A) (hk : k ≤ j) (hN : X.N[i]? = some x) (hv : Vis X.env.scope x) (ha : PA X [e] t)
    (hd : (x == ("__debug__" : Str)) = false := by decide) (hcd : (x == ("__classdict__" : Str)) = false := by decide)
    (he : starEach (e :: []) X.env = (false, eval e X.env) :: starEach [] X.env := by rfl) (hpl : (backTo pos (starEach [] X.env)).any (·.1) = false := by rfl) :
    PE X (.Call (.Name x p) [e] [] pos) (fun σ H Q => σ[i]? = some (some (.ref f)) ∧ t σ H fun vs H1 => ∃ n, vs = [.int n] ∧ dom n ∧ Ih H1 ∧ ∀ v H2, ans n H1 v H2 → Q v H2) := by
  refine ⟨fun pins s σ H Q I h => ?_⟩
  obtain ⟨hs, ht⟩ := h
  refine wpAny_Call_Name_kw (thn ((pe_var (pos := p) hN hv hd hcd).run pins s σ H (fun v H1 => v = .ref f ∧ H1 = H) I ⟨.ref f, hs, rfl, rfl⟩) fun u s1 ⟨v, H1, I1, r1, q1⟩ => ?_)
  obtain ⟨ev, eH⟩ := q1
  subst ev
  rw [eH] at I1
  obtain rfl : u = Value.ref f := r1
  have at_ : ∀ {pins : List (Addr × Obj)} {σ : L2.St} {H : Hp} {s : Shared}, Inv X pins σ H s → PySem.W.FnAt f s.heap := fun J => by
    obtain ⟨c, od, fd, sl, ho⟩ := Fn.fn
    exact ⟨c, od, fd, sl, J.bk _ _ (up _ _ ho)⟩
  refine PySem.W.callWith_F (first := []) (at_ I1) (thn (ha.run pos pins s1 σ H _ I1 ht) fun us s2 ⟨vs, H2, I2, r, n, ev, hdm, hI, q⟩ => ⟨at_ I2, ?_⟩) he hpl
  subst ev
  obtain ⟨u, rfl, ru⟩ := vals1 r
  show wpAny _ _ (call (.ref f) [u]) _ _ _
  refine wpAny_call (codeAny_mono (Fn.run X.base X.A X.stack s2 H2 u n up (hr.mono hk) I2.env0 hI hdm ru) fun r s' hq => ?_)
  cases r with
  | error e => exact False.elim hq
  | ok fl =>
    cases fl with
    | ret u => 
      obtain ⟨v, H', J, rv, q'⟩ := I2.after hq
      exact ⟨v, H', J, rv, q v H' q'⟩
    | next => exact False.elim hq
    | brk => exact False.elim hq
    | cont => exact False.elim hq
end
end Ag

set_option maxHeartbeats 8000000
namespace Ag
open PySem PySem.Spec PyProof.Rows L2 LamX NdefX
/-! ### min(xs, key=lambda ..): the first item of the least key -/
/-- a list walked by what it holds, not by the very words that stand there -/
theorem walksV {prog : Program} {w : World} {A : Around} (hh : A.handled = none) (I ax : Addr) (hne : ax ≠ I) (xs : List V) :
    WalksS prog w A I [I, ax] [I] (fun a b => b = a) xs.length (fun i v => ∃ x, xs[i]? = some x ∧ RelV x v) (fun i s => s.heap.IsListIter I ax i ∧ ∃ items : Array Value, s.heap.IsList ax items ∧ Vals xs items.toList) := by
  have sz : ∀ {items : Array Value}, Vals xs items.toList → items.size = xs.length := fun r => by
    have := r.length
    simpa using this.symm
  refine ⟨fun b hb => by simp at hb; simp [hb], fun _ => rfl, fun _ _ _ h1 h2 => h2.trans h1, ?_, ?_, ?_, ?_⟩
  · rintro i s h' tk ⟨h1, items, h2, h3⟩ _ hk
    exact ⟨h1.at fun o e => hk I (by simp) o e, items, h2.at fun o e => hk ax (by simp) o e, h3⟩
  · rintro i s Q E hi ⟨h1, items, h2, h3⟩ hQ
    refine (Walks.list (prog := prog) (w := w) (A := A) hh I ax hne items).toS.item i s Q E (by rw [sz h3]; exact hi) ⟨h1, h2⟩ fun v s' hv st m => ?_
    obtain ⟨x, hx⟩ : ∃ x, xs[i]? = some x := ⟨_, List.getElem?_eq_getElem hi⟩
    obtain ⟨u, hu, ru⟩ := h3.get hx
    have e : v = u := by
      have h4 : items[i]? = some v := hv
      rw [← Array.getElem?_toList, hu] at h4
      exact (Option.some.inj h4).symm
    exact hQ v s' ⟨x, hx, e ▸ ru⟩ ⟨st.1, items, st.2, h3⟩ m
  · rintro s Q E ⟨h1, items, h2, h3⟩ hQ
    exact (Walks.list (prog := prog) (w := w) (A := A) hh I ax hne items).toS.done s Q E ⟨by rw [sz h3]; exact h1, h2⟩ hQ
  · rintro i s Q E ⟨h1, items, h2, h3⟩ hQ
    exact (Walks.list (prog := prog) (w := w) (A := A) hh I ax hne items).toS.self i s Q E ⟨h1, h2⟩ hQ
/-- only new tuples are added -/
structure Ext (H H' : Hp) : Prop where
  same : Same H H'
  new : ∀ b, H b = none → H' b = none ∨ ∃ xs, H' b = some (.tup xs)
theorem Ext.refl (H : Hp) : Ext H H := ⟨Same.refl H, fun b e => .inl e⟩
theorem Ext.tup {H H' : Hp} (e : Ext H H') {p : Addr} {xs : List V} (n : H' p = none) : Ext H (upd H' p (.tup xs)) :=
  ⟨e.same.trans (same_new n), fun b hb => by
    by_cases z : b = p
    · rw [z, upd_same]
      exact .inr ⟨xs, rfl⟩
    · rw [upd_ne z]
      exact e.new b hb⟩
/-! ### the least -/
abbrev lexL := HT.lexLt
theorem lexL_irr : ∀ l : List Int, lexL l l = false
  | [] => rfl
  | x :: r => by
    show (if x = x then lexL r r else _) = false
    rw [if_pos rfl]
    exact lexL_irr r
/-- of three numbers each: not less, and less, make less -/
theorem lexL_trans {a b c : List Int} (ha : a.length = 3) (hb : b.length = 3) (hc : c.length = 3) (h1 : lexL b a = true) (h2 : lexL c a = false) : lexL c b = false := by
  match a, b, c, ha, hb, hc with
  | [a1, a2, a3], [b1, b2, b3], [c1, c2, c3], _, _, _ =>
    simp only [lexL, HT.lexLt_cons, HT.lexLt_nil_nil] at h1 h2 ⊢
    split at h1 <;> split at h2 <;> split <;> first | omega | skip
    all_goals (try split at h1) <;> (try split at h2) <;> (try split) <;> first | omega | skip
    all_goals (try split at h1) <;> (try split at h2) <;> (try split) <;> simp_all <;> omega
theorem best_least (g : Int → List Int) (hg : ∀ n, (g n).length = 3) (ns : List Int) : ∀ k, k < ns.length → argBest (fun i j => lexL (g (ns.getD i 0)) (g (ns.getD j 0))) k ≤ k ∧
    ∀ i, i ≤ k → lexL (g (ns.getD i 0)) (g (ns.getD (argBest (fun i j => lexL (g (ns.getD i 0)) (g (ns.getD j 0))) k) 0)) = false
  | 0, _ => ⟨Nat.le_refl _, fun i hi => by
    obtain rfl : i = 0 := by omega
    exact lexL_irr _⟩
  | k + 1, hk => by
    obtain ⟨i1, i2⟩ := best_least g hg ns k (by omega)
    by_cases hb : lexL (g (ns.getD (k + 1) 0)) (g (ns.getD (argBest (fun i j => lexL (g (ns.getD i 0)) (g (ns.getD j 0))) k) 0)) = true
    · have ea : argBest (fun i j => lexL (g (ns.getD i 0)) (g (ns.getD j 0))) (k + 1) = k + 1 := if_pos hb
      rw [ea]
      refine ⟨Nat.le_refl _, fun i hi => ?_⟩
      by_cases z : i = k + 1
      · rw [z]
        exact lexL_irr _
      · exact lexL_trans (hg _) (hg _) (hg _) hb (i2 i (by omega))
    · have ea : argBest (fun i j => lexL (g (ns.getD i 0)) (g (ns.getD j 0))) (k + 1) = argBest (fun i j => lexL (g (ns.getD i 0)) (g (ns.getD j 0))) k := if_neg hb
      rw [ea]
      refine ⟨by omega, fun i hi => ?_⟩
      by_cases z : i = k + 1
      · rw [z]
        simpa using hb
      · exact i2 i (by omega)
theorem vals_det : ∀ {xs : List V} {us : List Value} {ns : List Int}, Vals xs us → Vals (ns.map V.int) us → xs = ns.map V.int
  | [], _, ns, .nil, h2 => by
    cases ns with
    | nil => rfl
    | cons n r => rw [List.map_cons] at h2; cases h2
  | x :: xs, u :: us, [], .cons a r, h2 => by cases h2
  | x :: xs, u :: us, n :: ns, .cons a r, h2 => by
    rw [List.map_cons] at h2
    cases h2 with
    | cons b r2 =>
      have e : x = .int n := by
        obtain ⟨t, rfl⟩ := b
        cases x <;> first | (obtain ⟨t', e⟩ := a; first | (cases e; done) | (cases e; rfl)) | (exact absurd a (by intro z; cases z)) | (cases a; done)
      rw [e, vals_det r r2]
      rfl
/-! ### the rule -/
section
variable {X : Cx} {pins : List (Addr × Obj)} {σ : L2.St} {H : Hp} {s : Shared} {Q : VK}
theorem un_of {v : Value} {P : Program} {w : World} {outer : List Env} {s' : Shared} (h : CE outer P w H s Q v s') : ∃ H', Un (frs outer) [] H H' s.heap s'.heap ∧ HOk P w H' s'.heap := let ⟨_, H', _, _, un, hok, _⟩ := h; ⟨H', un, hok⟩
theorem min_key {k j : Nat} {a f : Addr} {ns : List Int} {g : Int → List Int} {o : Obj} (I : Inv X pins σ H s) (hc : X.calm = true) (hr : Room (j + 1) X.A) (hk : k ≤ j) (hL : H a = some (.lst (ns.map V.int))) (hne : ns ≠ []) (hg : ∀ n, (g n).length = 3)
    (hf : s.heap.get? f = some o) (nf : H f = none) (ff : f ∉ frs X.stack)
    (Fn : ∀ b2 : Heap, (∀ b o, X.base.get? b = some o → b2.get? b = some o) → (∀ b o, s.heap.get? b = some o → H b = none → b ∉ frs X.stack → b2.get? b = some o) → KeyFn X.prog X.w X.K X.mg b2 k f (· ∈ ns) (Ext H) (ansT g))
    (q : ∀ m H', Ext H H' → m ∈ ns → (∀ n ∈ ns, lexL (g n) (g m) = false) → Q (.int m) H') :
    wpAny (model X.prog X.w) X.A (call (.builtin "min") [.ref a] [(Str.ofString "key", .ref f)]) (EP X pins σ Q) X.xe s := by
  have hu : X.A.units + 64 < cLine := hr.units
  obtain ⟨b2, e2, up2, in2⟩ := env0_rebase I.env0
  have Fn2 := Fn b2 up2 in2
  obtain ⟨its, rv, pl, hz⟩ := I.list (SqL.of hL)
  have hsz : its.length = ns.length := by rw [← rv.length, List.length_map]
  refine call_min_walkK (wpAny_pyIter_list pl.isList ?_)
  have hlt : a < s.heap.objs.size := by obtain ⟨_, e, _⟩ := pl.isList; exact Heap.lt_size e
  have kp : ∀ b o, s.heap.get? b = some o → (s.heap.push { cls := .type "list_iterator", data := .fields #[.ref a, .int 0 0] }).get? b = some o := fun b o e => Heap.get?_push_of_some _ e
  -- where the walk's own things stand
  have hr1 : Room j X.A.in1 := hr.in1
  generalize hs2 : ({ s with heap := s.heap.push { cls := .type "list_iterator", data := .fields #[.ref a, .int 0 0] } } : Shared) = s2
  have h2 : s2.heap = s.heap.push { cls := .type "list_iterator", data := .fields #[.ref a, .int 0 0] } := by rw [← hs2]
  have sz2 : s2.heap.objs.size = s.heap.objs.size + 1 := by rw [h2, Heap.size_push]
  have fI : FpOk X pins H s.heap.objs.size := I.fpOk (Nat.le_refl _) (I.hok.fresh (Nat.le_refl _))
  have fS : FpOk X pins H s2.heap.objs.size := I.fpOk (by omega) (I.hok.fresh (by omega))
  have I2 : Inv X pins σ H s2 := by
    rw [← hs2]
    exact I.kept (t' := s.toks) kp
  have nst : ∀ {H' : Hp} {b : Addr}, FpOk X pins H' b → b ∉ frs X.stack := fun f hm => by
    rcases List.mem_cons.mp (I.stkSub _ hm) with e | e
    · exact f.2.1 e
    · exact f.2.2.1 e
  have lt2 : ∀ {b : Addr} {ob : Obj}, s.heap.get? b = some ob → b ≠ s.heap.objs.size ∧ b ≠ s2.heap.objs.size := fun e =>
    ⟨Nat.ne_of_lt (Heap.lt_size e), Nat.ne_of_lt (Nat.lt_of_lt_of_le (Heap.lt_size e) (by rw [sz2]; exact Nat.le_succ _))⟩
  have hli : s2.heap.IsListIter s.heap.objs.size a 0 := by
    rw [h2]
    exact ⟨_, Heap.get?_push_size _ rfl, rfl, rfl⟩
  have hl2 : ∃ items : Array Value, s2.heap.IsList a items ∧ Vals (ns.map V.int) items.toList := by
    rw [h2]
    exact ⟨its.toArray, pl.isList.push _, by simpa using rv⟩
  have hI1 : s.heap.objs.size < s2.heap.objs.size := by rw [sz2]; exact Nat.lt_succ_self _
  revert fI fS hli lt2 hI1
  generalize s.heap.objs.size = It at *
  generalize hSS : s2.heap.objs.size = S
  intro fI fS lt2 hli hI1
  have nIS : It ≠ S := Nat.ne_of_lt hI1
  have hlen : (ns.map V.int).length = ns.length := List.length_map ..
  refine ⟨It, [It, a], [It], (fun a b => b = a), (ns.map V.int).length, (fun i v => ∃ x, (ns.map V.int)[i]? = some x ∧ RelV x v), (fun i s => s.heap.IsListIter It a i ∧ ∃ items : Array Value, s.heap.IsList a items ∧ Vals (ns.map V.int) items.toList),
    (fun s' => ∃ H', Inv X pins σ H' s' ∧ Ext H H' ∧ FpOk X pins H' S ∧ FpOk X pins H' It ∧ ∀ b o, s.heap.get? b = some o → H b = none → b ∉ frs X.stack → s'.heap.get? b = some o ∧ H' b = none),
    (fun i k s' => ∃ t its n, k = .ref t ∧ ns[i]? = some n ∧ H t = none ∧ t ∉ frs X.stack ∧ t ≠ S ∧ t ≠ It ∧ IsTup s'.heap t its ∧ IntsAre its.toList (g n)),
    (fun i j => lexL (g (ns.getD i 0)) (g (ns.getD j 0))), rfl, walksV (A := X.A.in1) (I.ok.hd hc) It a (Nat.ne_of_lt hlt) _, ⟨hli, hl2⟩, ?_, ?_, ?_, ?_, ?_⟩
  · intro b hb
    rcases List.mem_cons.mp hb with z | hb
    · rw [z]
      exact hI1
    · rcases List.mem_cons.mp hb with z | hb
      · rw [z]
        exact Nat.lt_trans hlt hI1
      · cases hb
  · rw [hlen]
    exact List.length_pos_iff.mpr hne
  · refine ⟨?_, ?_, ?_, ?_⟩
    · -- what min itself turns
      rintro sa sb ⟨H', I', E', fS', fI', KU⟩ m
      obtain ⟨h1, g1, d1, t1, o1⟩ := sb
      have hg1 : g1 = sa.gens := m.gens
      have hd1 : d1 = sa.drawn := m.drawn
      have ho1 : o1 = sa.os := m.os
      subst hg1 hd1 ho1
      refine ⟨H', I'.turnedL (ch := [S, It]) (fun b o hb e => m.heap b o hb e) (fun b hb => ?_), E', fS', fI', fun b o e n nf => ⟨m.heap b o (fun hm => ?_) (KU b o e n nf).1, (KU b o e n nf).2⟩⟩
      · rcases List.mem_cons.mp hb with rfl | hb
        · exact fS'
        · rw [List.mem_singleton.mp hb]
          exact fI'
      · rcases List.mem_cons.mp hm with z | z
        · exact (lt2 e).2 z
        · exact (lt2 e).1 (List.mem_singleton.mp z)
    · rintro i k sa sb ⟨t, its, n, rfl, hn, ht, nf, tS, tI, ⟨ob, e1, e2⟩, hi⟩ m
      refine ⟨t, its, n, rfl, hn, ht, nf, tS, tI, ⟨ob, m.heap t ob (fun hm => ?_) e1, e2⟩, hi⟩
      rcases List.mem_cons.mp hm with z | z
      · exact tS z
      · exact tI (List.mem_singleton.mp z)
    · -- a key
      rintro i v sa ob Qk Ek hi ⟨x, hx, rx⟩ ⟨H', I', E', fS', fI', KU⟩ ⟨st1, items, st2, st3⟩ hS hQ
      obtain ⟨n, hn, rfl⟩ : ∃ n, ns[i]? = some n ∧ x = .int n := by
        rw [List.getElem?_map] at hx
        cases e : ns[i]? with
        | none => rw [e] at hx; cases hx
        | some n => rw [e] at hx; exact ⟨n, rfl, (Option.some.inj hx).symm⟩
      obtain ⟨b3, e3, up3, in3⟩ := env0_rebase I'.env0.in1
      refine wpAny_call (codeAny_mono (Fn2.run b3 X.A.in1 X.stack sa H' v n (fun b o hb => ?_) (hr1.mono hk) e3 E' (List.mem_of_getElem? hn) rx) fun r s' hq => ?_)
      · have h1 := e2.bs b o hb
        have h3 : b ∉ frs X.stack := fun hm => by
          rw [(e2.funs.mem hm).1] at hb
          cases hb
        obtain ⟨h4, h5⟩ := KU b o h1.1 h1.2 h3
        exact in3 b o h4 h5 h3
      cases r with
      | error e => exact False.elim hq
      | ok fl =>
        cases fl with
        | next => exact False.elim hq
        | brk => exact False.elim hq
        | cont => exact False.elim hq
        | ret u =>
          obtain ⟨v', H'', os, bare, un, hok, rv', p, rfl, hp, rfl⟩ := hq
          obtain rfl : u = .ref p := rv'
          have J2 : Inv X pins σ (upd H' p (.tup ((g n).map V.int))) s' := by
            obtain ⟨v2, H2, J, _, hv2, hH2⟩ := I'.after (Q := fun v2 H2 => v2 = .ref p ∧ H2 = upd H' p (.tup ((g n).map V.int))) (u := .ref p) ⟨.ref p, _, os, bare, un, hok, rfl, rfl, rfl⟩
            rw [hH2] at J
            exact J
          have stay : ∀ b o, sa.heap.get? b = some o → H' b = none → b ∉ frs X.stack → s'.heap.get? b = some o := fun b o e n nf => un.keep b o e n nf (by simp)
          have free : ∀ b o, sa.heap.get? b = some o → H' b = none → upd H' p (.tup ((g n).map V.int)) b = none := fun b o e n => un.free b o e n (by simp)
          obtain ⟨oi, hoi, hoi2⟩ := id st1
          have fS2 : FpOk X pins (upd H' p (.tup ((g n).map V.int))) S := ⟨free _ _ hS fS'.1, fS'.2⟩
          have fI2 : FpOk X pins (upd H' p (.tup ((g n).map V.int))) It := ⟨free _ _ hoi fI'.1, fI'.2⟩
          have hpp : upd H' p (.tup ((g n).map V.int)) p = some (.tup ((g n).map V.int)) := upd_same
          have npS : p ≠ S := ne_of_none hpp fS2.1
          have npI : p ≠ It := ne_of_none hpp fI2.1
          have nps : p ∉ frs X.stack := fun hm => by
            have := J2.stkFree p hm
            rw [hpp] at this
            cases this
          have nHp : H p = none := E'.same.free hp
          refine hQ (.ref p) s' ⟨_, J2, E'.tup hp, fS2, fI2, fun b o e n nf => ?_⟩ ⟨st1.at fun o e => stay _ _ e fI'.1 (nst fI'), ?_⟩ (stay _ _ hS fS'.1 (nst fS')) ?_ ?_
          · obtain ⟨k1, k2⟩ := KU b o e n nf
            exact ⟨stay _ _ k1 k2 nf, free _ _ k1 k2⟩
          · have hL2 : upd H' p (.tup ((g n).map V.int)) a = some (.lst (ns.map V.int)) := (E'.tup hp).same _ _ hL
            obtain ⟨its2, rv2, pl2, _⟩ := J2.list (SqL.of hL2)
            exact ⟨its2.toArray, pl2.isList, by simpa using rv2⟩
          · obtain ⟨z1, its3, rv3, tp3⟩ := hok p _ hpp
            exact ⟨p, its3.toArray, n, rfl, hn, nHp, nps, npS, npI, tp3, by simpa using rv3.ints⟩
          · rintro j k' ⟨t, its3, n3, rfl, hn3, ht, nf, tS, tI, tp, hi3⟩
            refine ⟨t, ?_⟩
            rcases E'.new t ht with z | ⟨xs, z⟩
            · obtain ⟨ot, e1, e2'⟩ := tp
              exact ⟨its3, n3, rfl, hn3, ht, nf, tS, tI, ⟨ot, stay _ _ e1 z nf, e2'⟩, hi3⟩
            · obtain ⟨_, its4, rv4, tp4⟩ := I'.hok t _ z
              have z2 := un.tups t xs z
              obtain ⟨_, its5, rv5, tp5⟩ := hok t _ z2
              have e4 : its3 = its4.toArray := by
                obtain ⟨oa, a1, a2, na, a3⟩ := tp
                obtain ⟨oc, b1, b2', nb, b3'⟩ := tp4
                rw [a1] at b1
                cases b1
                rw [a3] at b3'
                cases b3'
                rfl
              subst e4
              have hi4 : IntsAre its4 (g n3) := by simpa using hi3
              have ex : xs = (g n3).map V.int := by
                have r1 := vals_of_ints hi4
                exact vals_det rv4 r1
              subst ex
              exact ⟨its5.toArray, n3, rfl, hn3, ht, nf, tS, tI, tp5, by simpa using rv5.ints⟩
    · rintro i j ki kj sa Qk Ek _ ⟨t1, its1, n1, rfl, hn1, _, _, _, _, tp1, hi1⟩ ⟨t2, its2, n2, rfl, hn2, _, _, _, _, tp2, hi2⟩ hQ
      refine HT.lt_tupInts tp1 tp2 hi1 hi2 (by show X.A.units + 1 < cLine; omega) ?_
      rw [getD_of hn1, getD_of hn2] at hQ
      exact hQ
  · exact ⟨H, I2, Ext.refl H, fS, fI, fun b o e n nf => ⟨by rw [h2]; exact kp b o e, n⟩⟩
  · rintro v s' ⟨x, hx, rx⟩ ⟨H', I', E', _, _, _⟩
    have hpos : 0 < ns.length := List.length_pos_iff.mpr hne
    obtain ⟨b1, b2'⟩ := best_least g hg ns (ns.length - 1) (by omega)
    rw [hlen] at hx
    revert hx b1 b2'
    generalize argBest (fun i j => lexL (g (ns.getD i 0)) (g (ns.getD j 0))) (ns.length - 1) = z
    intro hx b1 b2'
    obtain ⟨m, hm⟩ : ∃ m, ns[z]? = some m := ⟨_, List.getElem?_eq_getElem (by omega)⟩
    rw [List.getElem?_map, hm] at hx
    obtain rfl : x = .int m := (Option.some.inj hx).symm
    refine ⟨.int m, H', I', rx, q m H' E' (List.mem_of_getElem? hm) fun n hn => ?_⟩
    obtain ⟨i, hi, e⟩ := List.getElem_of_mem hn
    have := b2' i (by omega)
    rw [getD_of hm, getD_of (List.getElem?_eq_getElem hi), e] at this
    exact this
end
end Ag

set_option maxHeartbeats 8000000
namespace Ag
open PySem PySem.Spec PyProof.Rows L2 LamX NdefX
/-! ### a def whose code object is known by its place -/
structure FunC (K : PySem.W.Frag) (x qual : Str) (st : Stmt) (f : Addr) (fd : FuncData) (c : Addr) : Prop where
  ex : ∃ (oc : Value) (od : Option Addr) (kV doc pm : Value) (an : Option Addr) (ct : Value) (osl : Array (Option Value)),
    fd = PySem.W.fnOf x qual (defArgs st) (defBody st) (defScope st) .none kV doc pm an (.ref c) ct ∧ K.lookup f = some ⟨oc, od, .func fd, osl⟩ ∧ PySem.W.codeIn K (.ref c) qual = true
  kp : PySem.W.keepIn K (.ref f) = true
section
variable {P : Program} {w : World} {K : PySem.W.Frag} {mg : Str → Option Value} {base : Heap}
theorem FunC.ok {x qual : Str} {st : Stmt} {f c : Addr} {fd : FuncData} {N ps : List Str} {k : Nat} {sp : Sp} (F : FunC K x qual st f fd c) (S : FnScope N ps (defScope st)) (len : ∀ vs H Q E, sp vs H Q E → vs.length = ps.length)
    (hbody : ∀ (A : Around) (outer : List Env) (s : Shared) (H : Hp) (vs : List V) (Q : VK) (E : XK), Room k (A.deeper (envOfC qual (defScope st) s.heap.objs.size f (.ref c))) → sp vs H Q E →
      ∃ t, PSs (cxOf CX0 P w K mg base N qual (defScope st) f (.ref c) A outer s H E).nox (defBody st) t ∧ t { nx := fun _ H' => Q .non H', rt := Q } (start N vs) H) : FnOk P w K mg base CX0 (k + 1) f fd ps sp := by
  obtain ⟨oc, od, kV, doc, pm, an, ct, osl, rfl, lk, hcd⟩ := F.ex
  refine fn_of lk hcd S len fun A outer s H vs Q E hr hsp => ?_
  obtain ⟨t, h, q⟩ := hbody A outer s H vs Q E hr hsp
  exact ⟨t, h.nox, q⟩
theorem FunC.binds {x qual : Str} {st : Stmt} {f c : Addr} {fd : FuncData} {ps : List Str} (F : FunC K x qual st f fd c)
    (h : ∀ (kV doc pm : Value) (an : Option Addr) (cdv ct : Value) (us : List Value), us.length = ps.length → bindArgs (PySem.W.fnOf x qual (defArgs st) (defBody st) (defScope st) .none kV doc pm an cdv ct) ⟨us, []⟩ = pure (ps.zip us)) : Binds K fd ps [] := by
  obtain ⟨oc, od, kV, doc, pm, an, ct, osl, rfl, lk, hcd⟩ := F.ex
  exact .all (h kV doc pm an (.ref c) ct)
end
/-! ### lambdas as arguments: what they ask of the running def -/
structure LamC (X : Cx) (T : List (Addr × Str)) (c P : Addr) (params : Arguments) (scope : Scope) (fr : List Str) (js : List Nat) : Prop where
  tb : TabB X.base X.mg c P
  code : X.env.code = .ref c
  mem : (P, X.env.qual ++ "<lambda>") ∈ T
  one : ∀ p ∈ T, p.1 = P → p.2 = X.env.qual ++ "<lambda>"
  dfl : defaultsOf params X.env = ([], [])
  fn : ∀ y, X.fn y = true
  free : ∀ y ∈ scope.names, y.2 = .free → X.env.scope.names.lookup y.1 = some .cell ∨ X.env.scope.names.lookup y.1 = some .free
  frs : ∀ y ∈ fr, (y, NameKind.free) ∈ scope.names
  jss : js.map (fun j => X.N[j]?) = fr.map some
abbrev lamF (X : Cx) (params : Arguments) (scope : Scope) (c' : Addr) : NF := ⟨"<lambda>", X.env.qual ++ "<lambda>", params, [], scope, cloFrom X.env.cells scope.names [], c'⟩
section
variable {X : Cx} {T : List (Addr × Str)} {c P : Addr} {params : Arguments} {body : Expr} {scope : Scope} {fr : List Str} {js : List Nat} {k j : Nat}
def one1 (R : V → Hp → Prop) : List V → Hp → Prop
  | [v], H => R v H
  | _, _ => False
theorem one1_of {R : V → Hp → Prop} : ∀ {vs : List V} {H : Hp}, one1 R vs H → ∃ v, vs = [v] ∧ R v H
  | [v], _, h => ⟨v, rfl, h⟩
  | [], _, h => h.elim
  | _ :: _ :: _, _, h => h.elim
/-- min(e, key=lambda ..) -/
def tMinL (X : Cx) (T : List (Addr × Str)) (params : Arguments) (body : Expr) (scope : Scope) (fr : List Str) (js : List Nat) (k : Nat) (te : TE) : TE := fun σ H Q => te σ H fun v H1 => Tabs T H1 ∧ ∃ (a : Addr) (ns : List Int), v = .ref a ∧ H1 a = some (.lst (ns.map V.int)) ∧ ns ≠ [] ∧
  ∀ (c' : Addr) (H2 : Hp), ExtN H1 H2 → Tabs T H2 → H2 c' = some (CodeO c' (X.env.qual ++ "<lambda>")) → ∃ g : Int → List Int, (∀ n, (g n).length = 3) ∧
    (∀ (b2 : Heap) (f : Addr), (∀ b o, X.base.get? b = some o → b2.get? b = some o) → LamB b2 f (lamF X params scope c') params body fr (js.map (slotAt σ)) → KeyFn X.prog X.w X.K X.mg b2 k f (· ∈ ns) (Ext H2) (ansT g)) ∧
    ∀ m H', Ext H2 H' → m ∈ ns → (∀ n ∈ ns, lexL (g n) (g m) = false) → Q (.int m) H'
theorem pe_minL {p lpos kpos pos : Pos} {e : Expr} {te : TE} (L : LamC X T c P params scope fr js) (hc : X.calm = true) (hr : Room (j + 1) X.A) (hk : k ≤ j) (hg : Gl X "min") (hm : X.mg "min" = none) (he0 : PE X e te) (hs0 : starEach [e] X.env = (false, eval e X.env) :: starEach [] X.env := by rfl)
    (he : backTo pos (starEach (e :: []) X.env) = (false, eval e X.env) :: backTo pos (starEach [] X.env) := by rfl) (hpl : (backTo pos (starEach (e :: []) X.env)).any (·.1) = false := by rfl)
    (hall : (backToKw pos (keywordEach [⟨some "key", .Lambda params body scope lpos, kpos⟩] X.env)).all (·.1.isSome) = true := by rfl) (hnone : (backToKw pos (keywordEach [⟨some "key", .Lambda params body scope lpos, kpos⟩] X.env)).any (·.1.isNone) = false := by rfl)
    (hks : (backToKw pos (keywordEach [⟨some "key", .Lambda params body scope lpos, kpos⟩] X.env)).filterMap (·.1) = [Str.ofString "key"] := by rfl) :
    PE X (.Call (.Name "min" p) [e] [⟨some "key", .Lambda params body scope lpos, kpos⟩] pos) (tMinL X T params body scope fr js k te) := by
  refine ⟨fun pins s σ H Q I h => ?_⟩
  have hfree : ∀ y ∈ scope.names, y.2 = .free → ∃ c, X.env.cells.lookup y.1 = some c := fun y hy e => (L.free y hy e).elim (fun z => I.ok.has _ (.inl z)) fun z => I.ok.has _ (.inr z)
  refine wpAny_Call_Name_kw (ld_blt I hg hm (by decide +kernel : bootBuiltins "min" = some (.builtin "min")) ?_ (by decide) (by decide))
  refine PyProof.Rows.callWith_kw (thn ((pa_cons he0 pa_nil hs0).run pos pins s σ H (one1 _) I h) fun us s1 ⟨vs, H1, I1, r1, q1⟩ => ?_) he hpl hall hnone
  rw [hks]
  obtain ⟨v, rfl, hT, a, ns, rfl, hL, hne, q1⟩ := one1_of q1
  obtain ⟨u, rfl, ru⟩ := vals1 r1
  obtain rfl : u = .ref a := ru
  show wpAny _ _ (evalAll ((do let v ← eval (.Lambda params body scope lpos) X.env; standAt pos; pure v) :: [])) _ _ s1
  refine wpAny_evalAll_cons (wpAny_bind (lam_make2 I1 L.tb L.code L.mem L.one hT L.dfl hfree fun f c' pm ctv H2 s2 I2 eN T2 hf nf nfr hc' => wpAny_bind (wpAny_standAt (wpAny_pure ?_))))
  refine wpAny_evalAll_nil ?_
  obtain ⟨g, hg3, Fn, q2⟩ := q1 c' H2 eN T2 hc'
  have hL2 : H2 a = some (.lst (ns.map V.int)) := eN _ _ hL (fun ps z => by cases z)
  refine min_key I2 hc hr hk hL2 hne hg3 hf nf nfr (fun b2 up in2 => Fn b2 f up ?_) q2
  exact lamB_made I2 L.fn (Caps.made I2.ok L.free L.frs L.jss) hf nf nfr in2
/-- o.m(e, lambda ..): the lambda is told to the method as a function in a wider base -/
def tMethL (X : Cx) (T : List (Addr × Str)) (params : Arguments) (body : Expr) (scope : Scope) (fr : List Str) (js : List Nat) (k : Nat) (C fm : Addr) (fd : FuncData) (ps : List Str) (m : Str) (ta te : TE) : TE := fun σ H Q => ta σ H fun x H1 => ∃ a dx fs, x = .ref a ∧ H1 a = some (.ins C dx fs) ∧ fs.lookup m = none ∧
  te σ H1 fun y H2 => Tabs T H2 ∧ ∀ (c' : Addr) (H3 : Hp), ExtN H2 H3 → Tabs T H3 → H3 c' = some (CodeO c' (X.env.qual ++ "<lambda>")) → ∃ sp : Addr → Sp,
    (∀ (b2 : Heap) (f : Addr), (∀ b o, X.base.get? b = some o → b2.get? b = some o) → X.K.In b2 → b2.Ns mainGlobals X.mg → LamB b2 f (lamF X params scope c') params body fr (js.map (slotAt σ)) → FnOk X.prog X.w X.K X.mg b2 CX0 k fm fd ps (sp f)) ∧
    ∀ f, sp f [.ref a, y, .ref f] H3 Q E0
theorem pe_methL {o e1 : Expr} {m : Str} {apos lpos pos : Pos} {C fm : Addr} {fd : FuncData} {ps : List Str} {ta te : TE} {pl : Sem Bool} (L : LamC X T c P params scope fr js) (ho : PE X o ta) (he : PE X e1 te) (cl : Cls X.K C) (hm : Meth X.K C m fm) (hr : Room k X.A) (hb : Binds X.K fd ps [])
    (hst : starEach [e1, .Lambda params body scope lpos] X.env = (false, eval e1 X.env) :: starEach [.Lambda params body scope lpos] X.env := by rfl) (hpl : (backTo pos (starEach [.Lambda params body scope lpos] X.env)).any (·.1) = false := by rfl)
    (hst2 : starEach [.Lambda params body scope lpos] X.env = (false, eval (.Lambda params body scope lpos) X.env) :: starEach [] X.env := by rfl)
    (ht : eval (.Call (.Attribute o m apos) [e1, .Lambda params body scope lpos] [] pos) X.env = (do
      let ov ← eval o X.env
      standAt apos.atName
      let (f, first) ← holding [ov] (getMethod ov m pl)
      callWith pos f first (backTo pos (starEach [e1, .Lambda params body scope lpos] X.env)) (backToKw pos (keywordEach [] X.env))) := by rfl) :
    PE X (.Call (.Attribute o m apos) [e1, .Lambda params body scope lpos] [] pos) (tMethL X T params body scope fr js k C fm fd ps m ta te) := by
  refine ⟨fun pins s σ H Q I h => ?_⟩
  have hfree : ∀ y ∈ scope.names, y.2 = .free → ∃ c, X.env.cells.lookup y.1 = some c := fun y hy e => (L.free y hy e).elim (fun z => I.ok.has _ (.inl z)) fun z => I.ok.has _ (.inr z)
  refine PySem.W.methodCall_KW (pl := pl) (thn (ho.run pins s σ H _ I h) fun u s1 ⟨x, H1, I1, rx, a, dx, fs, ex, ea, l, q⟩ => ?_) ht
  subst ex
  obtain rfl : u = Value.ref a := rx
  refine getmeth_ok I1 ea cl hm l ?_
  refine PySem.W.callWith_K (first := [.ref a]) (h₀ := X.base) I.ok.mod.kin hm.kp ?_ hst hpl
  rw [hst]
  show wpAny _ _ (spliced ((false, eval e1 X.env) :: backTo pos (starEach [.Lambda params body scope lpos] X.env))) _ _ s1
  refine Calls.spliced_cons (thn (he.run pins s1 σ H1 _ I1 q) fun u2 s2 ⟨y, H2, I2, r2, hT, q2⟩ => ?_)
  rw [hst2]
  show wpAny _ _ (spliced ((false, eval (.Lambda params body scope lpos) X.env) :: backTo pos (starEach [] X.env))) _ _ s2
  refine Calls.spliced_cons (lam_make2 I2 L.tb L.code L.mem L.one hT L.dfl hfree fun f c' pm ctv H3 s3 I3 eN T3 hf nf nfr hc' => ?_)
  refine Calls.spliced_nil ⟨I3.kIn, ?_⟩
  obtain ⟨sp, Fn, q3⟩ := q2 c' H3 eN T3 hc'
  obtain ⟨b2, e2, up2, in2⟩ := env0_rebase I3.env0
  have F := Fn b2 f up2 e2.mod.kin e2.mod.glob (lamB_made I3 L.fn (Caps.made I3.ok L.free L.frs L.jss) hf nf nfr in2)
  have r3 : Vals [V.ref a, y, .ref f] [Value.ref a, u2, .ref f] := .cons rfl (.cons r2 (.cons rfl .nil))
  have q4 := q3 f
  have hl : ([Value.ref a, u2, .ref f] ++ []).length = ps.length := by
    have := F.len _ _ _ _ q4
    exact this
  show wpAny _ _ (call (.ref fm) [.ref a, u2, .ref f]) _ _ _
  refine wpAny_call (codeAny_mono (F.run X.A X.stack s3 H3 ⟨[.ref a, u2, .ref f], []⟩ ([.ref a, u2, .ref f] ++ []) [.ref a, y, .ref f] Q E0 hr e2 (hb s3 _ I3.kIn hl) r3 q4) fun r s' hq => ?_)
  cases r with
  | error e => exact False.elim hq
  | ok fl =>
    cases fl with
    | ret u => exact I3.after hq
    | next => exact False.elim hq
    | brk => exact False.elim hq
    | cont => exact False.elim hq
end
end Ag

namespace Ag
open PySem PySem.Spec PyProof.Rows L2 LamX NdefX
/-! ### what an arm chooses -/
structure ArmS where
  now : Int
  here : Int
  up : Bool
  left : List Nat
def come (l : List Ask) (n : Nat) : Int := (l.getD n (0, 0, 0)).1
def trk (l : List Ask) (n : Nat) : Int := (l.getD n (0, 0, 0)).2.1
/-- the first of the least keys -/
def pick (g : Nat → List Int) : List Nat → Nat
  | [] => 0
  | x :: r => r.foldl (fun a y => if lexL (g y) (g a) then y else a) x
theorem lexL_anti {a b : List Int} (ha : a.length = 3) (hb : b.length = 3) (h1 : lexL a b = false) (h2 : lexL b a = false) : a = b := by
  match a, b, ha, hb with
  | [a1, a2, a3], [b1, b2, b3], _, _ =>
    have key : ∀ x y : Int, decide (x < y) = false → decide (y < x) = false → x = y := fun x y h h' => by
      have h := of_decide_eq_false h
      have h' := of_decide_eq_false h'
      omega
    unfold lexL at h1 h2
    rw [HT.lexLt_cons] at h1 h2
    by_cases e1 : a1 = b1
    · rw [if_pos e1, HT.lexLt_cons] at h1
      rw [if_pos e1.symm, HT.lexLt_cons] at h2
      by_cases e2 : a2 = b2
      · rw [if_pos e2, HT.lexLt_cons] at h1
        rw [if_pos e2.symm, HT.lexLt_cons] at h2
        by_cases e3 : a3 = b3
        · rw [e1, e2, e3]
        · rw [if_neg e3] at h1
          rw [if_neg (fun z => e3 z.symm)] at h2
          exact absurd (key _ _ h1 h2) e3
      · rw [if_neg e2] at h1
        rw [if_neg (fun z => e2 z.symm)] at h2
        exact absurd (key _ _ h1 h2) e2
    · rw [if_neg e1] at h1
      rw [if_neg (fun z => e1 z.symm)] at h2
      exact absurd (key _ _ h1 h2) e1
theorem pick_least (g : Nat → List Int) (hg : ∀ n, (g n).length = 3) : ∀ (r : List Nat) (x : Nat), r.foldl (fun a y => if lexL (g y) (g a) then y else a) x ∈ x :: r ∧
    ∀ n ∈ x :: r, lexL (g n) (g (r.foldl (fun a y => if lexL (g y) (g a) then y else a) x)) = false
  | [], x => ⟨List.mem_cons_self, fun n hn => by
    rcases List.mem_cons.mp hn with rfl | hn
    · exact lexL_irr _
    · cases hn⟩
  | y :: r, x => by
    rw [List.foldl_cons]
    obtain ⟨h1, h2⟩ := pick_least g hg r (if lexL (g y) (g x) then y else x)
    revert h1 h2
    generalize List.foldl (fun a y => if lexL (g y) (g a) then y else a) (if lexL (g y) (g x) then y else x) r = m
    intro h1 h2
    refine ⟨?_, fun n hn => ?_⟩
    · rcases List.mem_cons.mp h1 with h | h
      · rw [h]
        split
        · exact List.mem_cons_of_mem _ List.mem_cons_self
        · exact List.mem_cons_self
      · exact List.mem_cons_of_mem _ (List.mem_cons_of_mem _ h)
    · have h0 := h2 _ List.mem_cons_self
      rcases List.mem_cons.mp hn with rfl | hn
      · by_cases hb : lexL (g y) (g n) = true
        · rw [if_pos hb] at h0
          cases hz : lexL (g n) (g m) with
          | false => rfl
          | true =>
            have := lexL_trans (hg m) (hg n) (hg y) hz h0
            rw [this] at hb
            cases hb
        · rw [if_neg hb] at h0
          exact h0
      · rcases List.mem_cons.mp hn with rfl | hn
        · by_cases hb : lexL (g n) (g x) = true
          · rw [if_pos hb] at h0
            exact h0
          · rw [if_neg hb] at h0
            have hb' : lexL (g n) (g x) = false := by simpa using hb
            cases hz : lexL (g n) (g m) with
            | false => rfl
            | true =>
              have h3 : lexL (g x) (g m) = false := h0
              cases hq : lexL (g m) (g x) with
              | false =>
                have e := lexL_anti (hg x) (hg m) h3 hq
                rw [← e] at hz
                rw [hz] at hb'
                cases hb'
              | true =>
                have := lexL_trans (hg x) (hg m) (hg n) hq hb'
                rw [this] at hz
                cases hz
        · exact h2 n (List.mem_cons_of_mem _ hn)
theorem pick_mem {g : Nat → List Int} (hg : ∀ n, (g n).length = 3) {l : List Nat} (h : l ≠ []) : pick g l ∈ l := by
  cases l with
  | nil => exact absurd rfl h
  | cons x r => exact (pick_least g hg r x).1
theorem pick_le {g : Nat → List Int} (hg : ∀ n, (g n).length = 3) {l : List Nat} {n : Nat} (hn : n ∈ l) : lexL (g n) (g (pick g l)) = false := by
  cases l with
  | nil => cases hn
  | cons x r => exact (pick_least g hg r x).2 n hn
/-- the least is this one, if the keys tell apart -/
theorem pick_is {g : Nat → List Int} (hg : ∀ n, (g n).length = 3) (inj : ∀ m n, g m = g n → m = n) {l : List Nat} {m : Nat} (hm : m ∈ l) (h : ∀ n ∈ l, lexL (g n) (g m) = false) : m = pick g l := by
  have hne : l ≠ [] := List.ne_nil_of_mem hm
  exact inj _ _ (lexL_anti (hg _) (hg _) (pick_le hg hm) (h _ (pick_mem hg hne)))
/-- the key with come and number behind it -/
def key3 (l : List Ask) (g : Nat → Int) (n : Nat) : List Int := [g n, come l n, (n : Int)]
theorem key3_len (l : List Ask) (g : Nat → Int) (n : Nat) : (key3 l g n).length = 3 := rfl
theorem key3_inj (l : List Ask) (g : Nat → Int) (m n : Nat) (h : key3 l g m = key3 l g n) : m = n := by
  unfold key3 at h
  injection h with _ h
  injection h with _ h
  injection h with h _
  omega
end Ag

namespace Ag
open PySem PySem.Spec PyProof.Rows L2 LamX NdefX
theorem pe_fldK {X : Cx} {K : PySem.W.Frag} {e : Expr} {f : Str} {pos : Pos} {ta : TE} (he : PE X e ta) (hK : X.K = K := by rfl) (hb : attributeBase e f X.env (eval e X.env) = eval e X.env := by rfl) : PE X (.Attribute e f pos) (tFld K ta f) := by
  subst hK
  exact pe_fld he hb
theorem rd_seq {a b : TS} {D : Ends} {σ : L2.St} {H : Hp} (h : a { D with nx := b D } σ H) : tSeq a b D σ H := h
theorem rd_if {c : TT} {a b : TS} {D : Ends} {σ : L2.St} {H : Hp} (h : c σ H fun k H1 => if k = true then a D σ H1 else b D σ H1) : tIfS c a b D σ H := h
theorem rd_test {t : TE} {σ : L2.St} {H : Hp} {Q : Bool → Hp → Prop} (h : t σ H fun x H' => ∃ k, x = .bl k ∧ Q k H') : tTest t σ H Q := h
theorem rd_op {r : R2} {ta tb : TE} {σ : L2.St} {H : Hp} {Q : VK} (h : ta σ H fun x H1 => tb σ H1 fun y H2 => r x y H2 Q) : tOp r ta tb σ H Q := h
theorem rd_ret {t : TE} {D : Ends} {σ : L2.St} {H : Hp} (h : t σ H D.rt) : tRet t D σ H := h
theorem rd_next {D : Ends} {σ : L2.St} {H : Hp} (h : D.nx σ H) : tNext D σ H := h
def b1 (u : Bool) : Int := if u then 1 else 0
def aheadU (l : List Ask) (st : ArmS) (pool : List Nat) : List Nat := pool.filter fun n => decide (0 ≤ (trk l n - st.here) * (2 * b1 st.up - 1))
def aheadL (l : List Ask) (st : ArmS) (pool : List Nat) : List Nat := pool.filter fun n => decide (0 ≤ trk l n - st.here)
def farK (l : List Ask) (st : ArmS) (n : Nat) : Int := iabs (trk l n - st.here)
def sweptN (l : List Ask) (st : ArmS) (pool : List Nat) : Nat := pick (key3 l (farK l st)) (if aheadU l st pool = [] then pool else aheadU l st pool)
def sweptU (l : List Ask) (st : ArmS) (pool : List Nat) : Bool := if aheadU l st pool = [] then !st.up else st.up
def loopedN (l : List Ask) (st : ArmS) (pool : List Nat) : Nat := pick (key3 l (trk l)) (if aheadL l st pool = [] then pool else aheadL l st pool)
inductive Rule where
  | first | near | soon | sweep | loop
def ruleS : Rule → Str
  | .first => "first"
  | .near => "near"
  | .soon => "soon"
  | .sweep => "sweep"
  | .loop => "loop"
def soonK (d : Disk) (l : List Ask) (st : ArmS) (n : Nat) : Int := serve d st.now st.here (l.getD n (0, 0, 0))
def choseN (d : Disk) (l : List Ask) (st : ArmS) (pool : List Nat) : Rule → Nat
  | .first => pick (key3 l fun _ => 0) pool
  | .near => pick (key3 l (farK l st)) pool
  | .soon => pick (key3 l (soonK d l st)) pool
  | .sweep => sweptN l st pool
  | .loop => loopedN l st pool
def choseU (l : List Ask) (st : ArmS) (pool : List Nat) : Rule → Bool
  | .sweep => sweptU l st pool
  | _ => st.up
/-- those who have come -/
def arrived (l : List Ask) (now : Int) (left : List Nat) : List Nat := left.filter fun n => decide (come l n ≤ now)
def leastI : List Int → Int
  | [] => 0
  | x :: r => r.foldl (fun a y => if y < a then y else a) x
theorem leastI_go : ∀ (r : List Int) (x : Int), r.foldl (fun a y => if y < a then y else a) x ∈ x :: r ∧ ∀ n ∈ x :: r, r.foldl (fun a y => if y < a then y else a) x ≤ n
  | [], x => ⟨List.mem_cons_self, fun n hn => by
    rcases List.mem_cons.mp hn with rfl | hn
    · exact Int.le_refl _
    · cases hn⟩
  | y :: r, x => by
    rw [List.foldl_cons]
    obtain ⟨h1, h2⟩ := leastI_go r (if y < x then y else x)
    revert h1 h2
    generalize List.foldl (fun a y => if y < a then y else a) (if y < x then y else x) r = m
    intro h1 h2
    have h0 := h2 _ List.mem_cons_self
    refine ⟨?_, fun n hn => ?_⟩
    · rcases List.mem_cons.mp h1 with h | h
      · rw [h]
        split
        · exact List.mem_cons_of_mem _ List.mem_cons_self
        · exact List.mem_cons_self
      · exact List.mem_cons_of_mem _ (List.mem_cons_of_mem _ h)
    · rcases List.mem_cons.mp hn with rfl | hn
      · split at h0 <;> omega
      · rcases List.mem_cons.mp hn with rfl | hn
        · split at h0 <;> omega
        · exact h2 n (List.mem_cons_of_mem _ hn)
theorem leastI_is {l : List Int} {m : Int} (hm : m ∈ l) (h : ∀ n ∈ l, m ≤ n) : m = leastI l := by
  cases l with
  | nil => cases hm
  | cons x r =>
    obtain ⟨h1, h2⟩ := leastI_go r x
    have a := h _ h1
    have b := h2 _ hm
    show m = r.foldl _ x
    omega
def wakeNow (l : List Ask) (st : ArmS) : Int := if arrived l st.now st.left = [] then leastI (st.left.map (come l)) else st.now
def wake (l : List Ask) (st : ArmS) : ArmS := { st with now := wakeNow l st }
def waitN (l : List Ask) (st : ArmS) : List Nat := arrived l (wakeNow l st) st.left
/-- the next ask served, and the arm behind it -/
def nextN (d : Disk) (l : List Ask) (r : Rule) (st : ArmS) : Nat := choseN d l (wake l st) (waitN l st) r
def nextS (d : Disk) (l : List Ask) (r : Rule) (st : ArmS) : ArmS where
  now := serve d (wakeNow l st) st.here (l.getD (nextN d l r st) (0, 0, 0))
  here := trk l (nextN d l r st)
  up := choseU l (wake l st) (waitN l st) r
  left := st.left.erase (nextN d l r st)
/-- the arm behind so many steps, and the rows that it has served -/
def runS (d : Disk) (l : List Ask) (r : Rule) : Nat → ArmS → ArmS
  | 0, st => st
  | k + 1, st => nextS d l r (runS d l r k st)
def rowsS (d : Disk) (l : List Ask) (r : Rule) (st : ArmS) : Nat → List (Nat × Int)
  | 0 => []
  | k + 1 => rowsS d l r st k ++ [(nextN d l r (runS d l r k st), (nextS d l r (runS d l r k st)).now)]
def armS0 (d : Disk) (l : List Ask) : ArmS := ⟨0, d.he, true, List.range l.length⟩
def ruledR (d : Disk) (l : List Ask) (r : Rule) : List (Nat × Int) := rowsS d l r (armS0 d l) l.length
theorem filter_step {c : Nat → Bool} {pool : List Nat} {i n : Nat} (h : pool[i]? = some n) : (pool.take (i + 1)).filter c = (pool.take i).filter c ++ if c n = true then [n] else [] := by
  rw [take_more h, List.filter_append]
  cases hc : c n with
  | true => rw [List.filter_cons_of_pos hc]; simp
  | false => rw [List.filter_cons_of_neg (by rw [hc]; exact Bool.false_ne_true)]; simp
theorem nints_filter_len {c : Nat → Bool} {pool : List Nat} {i : Nat} : ((nints ((pool.take i).filter c)).map V.int).length ≤ pool.length := by
  rw [List.length_map, nints_len]
  exact Nat.le_trans (List.length_filter_le _ _) (by rw [List.length_take]; omega)
end Ag

namespace Ag
open PySem PySem.Spec PyProof.Rows L2
/-! ### the text -/
def top (i : Nat) : Stmt := PySem.Challenge.pw_armorder_k07_whole_later_turned_and_mirr.main.body.getD i (.Pass ⟨0, 0, 0, 0⟩)
theorem ifd_t {p : Prop} [Decidable p] {A B : Prop} (h : p) (a : A) : if decide p = true then A else B := by
  rw [decide_eq_true h]
  exact iteT a
theorem ifd_f {p : Prop} [Decidable p] {A B : Prop} (h : ¬ p) (b : B) : if decide p = true then A else B := by
  rw [decide_eq_false h]
  exact iteF b
theorem ifnd_t {p : Prop} [Decidable p] {A B : Prop} (h : p) (b : B) : if (!decide p) = true then A else B := by
  rw [decide_eq_true h]
  exact iteF b
theorem ifnd_f {p : Prop} [Decidable p] {A B : Prop} (h : ¬ p) (a : A) : if (!decide p) = true then A else B := by
  rw [decide_eq_false h]
  exact iteT a
theorem if2d {p : Prop} [Decidable p] {A B : Prop} (h1 : p → A) (h2 : ¬ p → B) : if decide p = true then A else B := by
  by_cases h : p
  · exact ifd_t h (h1 h)
  · exact ifd_f h (h2 h)
theorem rel_int {i : Int} {t : Tok} : RelV (.int i) (.int i t) := ⟨_, rfl⟩
/-- a def that is called: its name, that it stays, how its arguments bind -/
structure Cal (K : PySem.W.Frag) (mg : Str → Option Value) (x : Str) (f : Addr) (fd : FuncData) (ps : List Str) : Prop where
  m : mg x = some (.ref f)
  k : PySem.W.keepIn K (.ref f) = true
  b : Binds K fd ps []
/-! ### need_disk -/
abbrev s_need_disk : Stmt := top 11
def sp_need_disk (K : PySem.W.Frag) : Sp := fun vs H Q _ => ∃ (v : V) (d : Disk), vs = [v] ∧ Dp K H v (dDisk d) ∧ GoodDisk d ∧ Q .non H
theorem sc_need_disk : FnScope ["disk", "tracks", "sectors", "pace", "here"] ["disk"] (defScope s_need_disk) := ⟨rfl, rfl, rfl, by decide +kernel, rfl, by decide +kernel, by decide +kernel⟩
section
variable {P : Program} {w : World} {K : PySem.W.Frag} {mg : Str → Option Value} {base : Heap}
theorem ok_need_disk {f : Addr} {fd : FuncData} (F : Fun K "need_disk" "need_disk" s_need_disk f fd) {t1 t2 t3 : Tok} (m1 : mg "MOST_TRACKS" = some (.int 64 t1)) (m2 : mg "MOST_SECTORS" = some (.int 16 t2)) (m3 : mg "MOST_PACE" = some (.int 4 t3)) :
    FnOk P w K mg base CX0 1 f fd ["disk"] (sp_need_disk K) := by
  refine F.ok sc_need_disk (fun vs H Q E h => ?_) (fun cdv A outer s H vs Q E hr h => ?_)
  · obtain ⟨v, d, rfl, _⟩ := h
    rfl
  · obtain ⟨v, d, rfl, hd, g, q⟩ := h
    obtain ⟨a, rfl, hT⟩ := dp_disk hd
    have nd := sc_need_disk.nd
    refine ⟨_, pss_cons (ps_asg (pv 0) (pg_tup rfl (pgs_cons (pg_name (i := 1) nd rfl (.inl rfl)) (pgs_cons (pg_name (i := 2) nd rfl (.inl rfl)) (pgs_cons (pg_name (i := 3) nd rfl (.inl rfl)) (pgs_cons (pg_name (i := 4) nd rfl (.inl rfl)) pgs_nil))))))
      (pss_cons (ps_if (pt_not (pt_chain op_le op_le pe_int (pv 1) (pe_glob rfl m1 rel_int))) (pss_one ps_never) pss_nil)
      (pss_cons (ps_if (pt_not (pt_chain op_le op_le pe_int (pv 2) (pe_glob rfl m2 rel_int))) (pss_one ps_never) pss_nil)
      (pss_cons (ps_if (pt_not (pt_chain op_le op_le pe_int (pv 3) (pe_glob rfl m3 rel_int))) (pss_one ps_never) pss_nil)
      (pss_one (ps_if (pt_not (pt_chain op_le op_lt pe_int (pv 4) (pv 1))) (pss_one ps_never) pss_nil))))), ?_⟩
    refine ⟨_, rfl, a, _, rfl, hT, rfl, _, _, rfl, _, _, rfl, _, _, rfl, _, _, rfl, rfl, ?_⟩
    refine ⟨_, rfl, _, _, rfl, rfl, _, rfl, ifd_t g.t1 ⟨_, _, rfl, rfl, _, rfl, ifnd_t g.t2 ?_⟩⟩
    refine ⟨_, rfl, _, _, rfl, rfl, _, rfl, ifd_t g.s1 ⟨_, _, rfl, rfl, _, rfl, ifnd_t g.s2 ?_⟩⟩
    refine ⟨_, rfl, _, _, rfl, rfl, _, rfl, ifd_t g.p1 ⟨_, _, rfl, rfl, _, rfl, ifnd_t g.p2 ?_⟩⟩
    refine ⟨_, rfl, _, _, rfl, rfl, _, rfl, ifd_t g.h1 ⟨_, rfl, _, _, rfl, rfl, _, rfl, ifnd_t g.h2 ?_⟩⟩
    exact q
end
/-! ### need_asks -/
abbrev s_need_asks : Stmt := top 12
def sp_need_asks (K : PySem.W.Frag) : Sp := fun vs H Q _ => ∃ (v u : V) (d : Disk) (l : List Ask), vs = [v, u] ∧ Dp K H v (dDisk d) ∧ Dp K H u (dAsks l) ∧ GoodAsks d l ∧ Q .non H
theorem sc_need_asks : FnScope ["disk", "asks", "number", "come", "track", "sector", "good"] ["disk", "asks"] (defScope s_need_asks) := ⟨rfl, rfl, rfl, by decide +kernel, rfl, by decide +kernel, by decide +kernel⟩
section
variable {P : Program} {w : World} {K : PySem.W.Frag} {mg : Str → Option Value} {base : Heap}
theorem ok_need_asks {f : Addr} {fd : FuncData} (F : Fun K "need_asks" "need_asks" s_need_asks f fd) (mr : mg "range" = none) (ml : mg "len" = none) {t1 t2 : Tok} (m1 : mg "MOST_ASKS" = some (.int 40 t1)) (m2 : mg "MOST_COME" = some (.int 999 t2)) :
    FnOk P w K mg base CX0 1 f fd ["disk", "asks"] (sp_need_asks K) := by
  refine F.ok sc_need_asks (fun vs H Q E h => ?_) (fun cdv A outer s H vs Q E hr h => ?_)
  · obtain ⟨v, u, d, l, rfl, _⟩ := h
    rfl
  · obtain ⟨v, u, d, l, rfl, hd, ha, g, q⟩ := h
    obtain ⟨a, rfl, hT⟩ := dp_disk hd
    obtain ⟨b, xs, rfl, hL, hlen, hat⟩ := dp_asks ha
    have nd := sc_need_asks.nd
    refine ⟨_, pss_one (ps_for PassesOwn.never rfl (pi_range1 rfl mr (pa_cons (pe_callB call_len_seq (by rfl) ml PySem.boot_len (pa_cons (pv 1) pa_nil)) pa_nil)) (pg_name (i := 2) nd rfl (.inl rfl))
      (pss_cons (ps_asg (pe_ix ix_list (pv 1) (pv 2) (fun _ _ => rfl)) (pg_tup rfl (pgs_cons (pg_name (i := 3) nd rfl (.inl rfl)) (pgs_cons (pg_name (i := 4) nd rfl (.inl rfl)) (pgs_cons (pg_name (i := 5) nd rfl (.inl rfl)) pgs_nil)))))
      (pss_cons (ps_set (i := 6) nd rfl (.inl rfl) (pe_and (pe_cmpR op_lt (pv 2) (pe_glob rfl m1 rel_int) (nomark _)) (pe_one (pe_chain op_le op_le pe_int (pv 3) (pe_glob rfl m2 rel_int)))))
      (pss_one (ps_if (PW.pt (pw_or (pt_not (pt_val (pv 6))) (pw_or (pt_not (pt_chain op_le op_lt pe_int (pv 4) (pe_ix ix_tup (pv 0) pe_int (fun _ _ => rfl)))) (pw_or1 (pt_not (pt_chain op_le op_lt pe_int (pv 5) (pe_ix ix_tup (pv 0) pe_int (fun _ _ => rfl)))))))) (pss_one ps_never) pss_nil))))), ?_⟩
    have h40 := g.len
    refine ⟨_, rfl, b, xs, rfl, .inl hL, _, rfl, by rw [hlen]; omega, by rw [hlen]; omega, ?_⟩
    refine for_range (lo := 0) (n := xs.length) (fun i σ H' => H' = H ∧ ∃ v2 v3 v4 v5 v6, σ = [some (.ref a), some (.ref b), v2, v3, v4, v5, v6]) ⟨rfl, none, none, none, none, none, rfl⟩ ?_ ?_
    · rintro i σ H' hi ⟨rfl, v2, v3, v4, v5, v6, rfl⟩
      obtain ⟨k, hk⟩ : ∃ k, l[i]? = some k := ⟨_, List.getElem?_eq_getElem (by omega)⟩
      obtain ⟨p, hp, hpT, _⟩ := hat i k hk
      have ga := g.at hk
      refine ⟨_, rfl, _, rfl, b, xs, (i : Int), .ref p, rfl, by rw [Int.zero_add], hL, atI_nat hp, ?_⟩
      refine ⟨p, _, rfl, hpT, rfl, _, _, rfl, _, _, rfl, _, _, rfl, rfl, ?_⟩
      refine ⟨_, rfl, _, _, rfl, rfl, _, rfl, ifd_t (by omega) ?_⟩
      refine ⟨_, rfl, _, _, rfl, rfl, _, rfl, ifd_t ga.c1 ⟨_, _, rfl, rfl, ?_⟩⟩
      refine ⟨_, rfl, _, rfl, ifnd_t ga.c2 ?_⟩
      refine ⟨_, rfl, _, _, rfl, rfl, _, rfl, ifd_t ga.t1 ⟨_, rfl, a, _, 0, _, rfl, rfl, hT, atI_nat (j := 0) rfl, _, _, rfl, rfl, _, rfl, ifnd_t ga.t2 ?_⟩⟩
      refine ⟨_, rfl, _, _, rfl, rfl, _, rfl, ifd_t ga.s1 ⟨_, rfl, a, _, 1, _, rfl, rfl, hT, atI_nat (j := 1) rfl, _, _, rfl, rfl, _, rfl, ifnd_t ga.s2 ?_⟩⟩
      exact ⟨rfl, _, _, _, _, _, rfl⟩
    · rintro σ H' ⟨rfl, _⟩
      exact q
end
/-! ### served -/
abbrev s_served : Stmt := top 13
def sp_served (K : PySem.W.Frag) : Sp := fun vs H Q _ => ∃ (v u : V) (d : Disk) (now here : Int) (a : Ask), vs = [v, .int now, .int here, u] ∧ Dp K H v (dDisk d) ∧ Dp K H u (dAsk a) ∧ GoodDisk d ∧ Q (.int (serve d now here a)) H
theorem sc_served : FnScope ["disk", "now", "here", "ask", "come", "track", "sector", "there"] ["disk", "now", "here", "ask"] (defScope s_served) := ⟨rfl, rfl, rfl, by decide +kernel, rfl, by decide +kernel, by decide +kernel⟩
section
variable {P : Program} {w : World} {K : PySem.W.Frag} {mg : Str → Option Value} {base : Heap}
theorem ok_served {f : Addr} {fd : FuncData} (F : Fun K "served" "served" s_served f fd) (mm : mg "max" = none) (ma : mg "abs" = none) : FnOk P w K mg base CX0 1 f fd ["disk", "now", "here", "ask"] (sp_served K) := by
  refine F.ok sc_served (fun vs H Q E h => ?_) (fun cdv A outer s H vs Q E hr h => ?_)
  · obtain ⟨v, u, d, now, here, a, rfl, _⟩ := h
    rfl
  · obtain ⟨v, u, d, now, here, ask, rfl, hd, hk, g, q⟩ := h
    obtain ⟨a, rfl, hT⟩ := dp_disk hd
    obtain ⟨b, rfl, hA⟩ := dp_tints hk
    have nd := sc_served.nd
    refine ⟨_, pss_cons (ps_asg (pv 3) (pg_tup rfl (pgs_cons (pg_name (i := 4) nd rfl (.inl rfl)) (pgs_cons (pg_name (i := 5) nd rfl (.inl rfl)) (pgs_cons (pg_name (i := 6) nd rfl (.inl rfl)) pgs_nil)))))
      (pss_cons (ps_set (i := 7) nd rfl (.inl rfl) (pe_op op_add (pe_callB (call_max2 rfl) (by rfl) mm (by decide +kernel) (pa_cons (pv 1) (pa_cons (pv 4) pa_nil))) (pe_op op_mul (pe_callB call_abs (by rfl) ma (by decide +kernel) (pa_cons (pe_op op_sub (pv 5) (pv 2)) pa_nil)) (pe_ix ix_tup (pv 0) pe_int (fun _ _ => rfl)))))
      (pss_one (ps_ret (pe_op op_add (pe_op op_add (pv 7) (pe_op op_mod (pe_op op_sub (pv 6) (pv 7)) (pe_ix ix_tup (pv 0) pe_int (fun _ _ => rfl)))) pe_int)))), ?_⟩
    refine ⟨_, rfl, b, _, rfl, hA, rfl, _, _, rfl, _, _, rfl, _, _, rfl, rfl, ?_⟩
    refine ⟨_, rfl, _, rfl, _, _, rfl, _, rfl, _, rfl, _, _, rfl, rfl, _, rfl, _, rfl, a, _, 2, _, rfl, rfl, hT, atI_nat (j := 2) rfl, _, _, rfl, rfl, .inr ⟨by have := g.p1; omega, by have := g.p2; omega⟩, _, _, rfl, rfl, ?_⟩
    refine ⟨_, rfl, _, rfl, _, rfl, _, _, rfl, rfl, _, rfl, a, _, 1, _, rfl, rfl, hT, atI_nat (j := 1) rfl, _, _, rfl, rfl, (by have := g.s1; show (0 : Int) < d.sc; omega), _, _, rfl, rfl, _, _, rfl, rfl, ?_⟩
    exact q
end
end Ag

namespace Ag
open PySem PySem.Spec PyProof.Rows L2
/-! ### the arm: its class, its object -/
open LamX NdefX
def clsB : Stmt → List Stmt
  | .ClassDef (body := b) .. => b
  | _ => []
def mth (j : Nat) : Stmt := (clsB (top 19)).getD j (.Pass ⟨0, 0, 0, 0⟩)
structure ArmC (K : PySem.W.Frag) (C : Addr) : Prop where
  glo : PySem.W.nsIn K mainGlobals "Arm" = some (some (.ref C))
  cl : Cls K C
  disk : NoAttr K C "disk"
  asks : NoAttr K C "asks"
  now : NoAttr K C "now"
  here : NoAttr K C "here"
  up : NoAttr K C "up"
  left : NoAttr K C "left"
structure Mt (K : PySem.W.Frag) (C : Addr) (x : Str) (f : Addr) (fd : FuncData) (ps : List Str) : Prop where
  m : Meth K C x f
  b : Binds K fd ps []
/-- where an arm's things stand -/
structure ArmP where
  C : Addr
  p : Addr
  dx : Addr
  a : Addr
  b : Addr
  Lf : Addr
def flds (z : ArmP) (s : ArmS) : List (Str × V) := [("disk", .ref z.a), ("asks", .ref z.b), ("now", .int s.now), ("here", .int s.here), ("up", .bl s.up), ("left", .ref z.Lf)]
structure ArmH (K : PySem.W.Frag) (z : ArmP) (d : Disk) (l : List Ask) (G H : Hp) (s : ArmS) : Prop where
  nt : ∀ b ps, G b ≠ some (.tbl ps)
  sub : Same G H
  gp : G z.p = none
  gL : G z.Lf = none
  dk : Dp K G (.ref z.a) (dDisk d)
  ak : Dp K G (.ref z.b) (dAsks l)
  ins : H z.p = some (.ins z.C z.dx (flds z s))
  lf : H z.Lf = some (.lst ((nints s.left).map V.int))
  lt : ∀ n ∈ s.left, n < l.length
theorem ArmH.keep {K : PySem.W.Frag} {z : ArmP} {d : Disk} {l : List Ask} {G H H' : Hp} {s : ArmS} (h : ArmH K z d l G H s) (e : ExtN H H') : ArmH K z d l G H' s :=
  ⟨h.nt, fun b o k => e b o (h.sub b o k) (fun ps q => h.nt b ps (q ▸ k)), h.gp, h.gL, h.dk, h.ak, e _ _ h.ins (fun ps q => by cases q), e _ _ h.lf (fun ps q => by cases q), h.lt⟩
theorem ArmH.same {K : PySem.W.Frag} {z : ArmP} {d : Disk} {l : List Ask} {G H H' : Hp} {s : ArmS} (h : ArmH K z d l G H s) (e : Same H H') : ArmH K z d l G H' s := h.keep (.of e)
theorem ArmH.disk {K : PySem.W.Frag} {z : ArmP} {d : Disk} {l : List Ask} {G H : Hp} {s : ArmS} (h : ArmH K z d l G H s) : SqT K H z.a [.int d.tr, .int d.sc, .int d.pa, .int d.he] := by
  obtain ⟨a, e, hT⟩ := dp_disk h.dk
  cases e
  exact same_sqt h.sub hT
theorem ArmH.ask {K : PySem.W.Frag} {z : ArmP} {d : Disk} {l : List Ask} {G H : Hp} {s : ArmS} (h : ArmH K z d l G H s) {n : Nat} (hn : n < l.length) : ∃ xs q, SqL K H z.b xs ∧ xs.length = l.length ∧ xs[n]? = some (.ref q) ∧ SqT K H q [.int (come l n), .int (trk l n), .int (l.getD n (0, 0, 0)).2.2] ∧ Dp K H (.ref q) (dAsk (l.getD n (0, 0, 0))) := by
  obtain ⟨b, xs, e, hL, hlen, hat⟩ := dp_asks h.ak
  cases e
  have hk : l[n]? = some (l.getD n (0, 0, 0)) := by rw [List.getD_eq_getElem?_getD, List.getElem?_eq_getElem hn]; rfl
  obtain ⟨q, hq, hT, hd⟩ := hat n _ hk
  exact ⟨xs, q, h.sub.seq hL, hlen, hq, same_sqt h.sub hT, dp_same h.sub hd⟩
theorem tabB_up {base b2 : Heap} {mg : Str → Option Value} {c P : Addr} (h : TabB base mg c P) (up : ∀ b o, base.get? b = some o → b2.get? b = some o) : TabB b2 mg c P := ⟨h.code.keeps up, h.bm.keeps up, h.gP⟩
/-- the lambda's name in a method -/
def lq (q : Str) : Str := q ++ ".<locals>." ++ "<lambda>"
theorem lamC_by {X : Cx} {T : List (Addr × Str)} {c P : Addr} {params : Arguments} {scope : Scope} {fr : List Str} {js : List Nat} (sc : Scope) (hsc : X.env.scope = sc) (tb : TabB X.base X.mg c P) (code : X.env.code = .ref c) (mem : (P, X.env.qual ++ "<lambda>") ∈ T) (one : ∀ p ∈ T, p.1 = P → p.2 = X.env.qual ++ "<lambda>")
    (dfl : defaultsOf params X.env = ([], [])) (fn : ∀ y, X.fn y = true) (h : ndefB sc scope fr = true) (jss : js.map (fun j => X.N[j]?) = fr.map some) : LamC X T c P params scope fr js :=
  ⟨tb, code, mem, one, dfl, fn, fun y hy e => by rw [hsc]; exact ndef_free h y hy e, ndef_fr h, jss⟩
/-! ### far -/
abbrev s_far : Stmt := mth 2
def sp_far (K : PySem.W.Frag) : Sp := fun vs H Q _ => ∃ (z : ArmP) (d : Disk) (l : List Ask) (G : Hp) (s : ArmS) (n : Nat), vs = [.ref z.p, .int (n : Int)] ∧ ArmH K z d l G H s ∧ ArmC K z.C ∧ n < l.length ∧ Q (.int (trk l n - s.here)) H
theorem sc_far : FnScope ["self", "number"] ["self", "number"] (defScope s_far) := ⟨rfl, rfl, rfl, by decide +kernel, rfl, by decide +kernel, by decide +kernel⟩
section
variable {P : Program} {w : World} {K : PySem.W.Frag} {mg : Str → Option Value} {base : Heap}
theorem ok_far {f : Addr} {fd : FuncData} (F : Fun K "far" "Arm.far" s_far f fd) : FnOk P w K mg base CX0 1 f fd ["self", "number"] (sp_far K) := by
  refine F.ok sc_far (fun vs H Q E h => ?_) (fun cdv A outer s H vs Q E hr h => ?_)
  · obtain ⟨z, d, l, G, s, n, rfl, _⟩ := h
    rfl
  · obtain ⟨z, d, l, G, st, n, rfl, hA, hC, hn, q⟩ := h
    have nd := sc_far.nd
    obtain ⟨xs, qa, hL, hlen, hq, hT, _⟩ := hA.ask hn
    refine ⟨_, (pss_one (ps_ret (pe_op op_sub (pe_ix (r := rIxT K) ix_tup (pe_ix (r := rIxL K) ix_list (pe_fld (pv 0) rfl) (pv 1) (fun _ _ => rfl)) pe_int (fun _ _ => rfl)) (pe_fld (pv 0) rfl)))), ?_⟩
    refine ⟨_, rfl, z.p, z.C, z.dx, _, _, rfl, hA.ins, hC.cl, hC.asks, rfl, _, rfl, z.b, xs, _, _, rfl, rfl, hL, atI_nat hq, ?_⟩
    refine ⟨qa, _, 1, _, rfl, rfl, hT, atI_nat (j := 1) rfl, ?_⟩
    refine ⟨_, rfl, z.p, z.C, z.dx, _, _, rfl, hA.ins, hC.cl, hC.here, rfl, _, _, rfl, rfl, ?_⟩
    exact q
end
end Ag

namespace Ag
open PySem PySem.Spec PyProof.Rows L2
/-! ### first_of -/
open LamX NdefX
abbrev s_first_of : Stmt := mth 3
def nin (pool : List Nat) (n : Int) : Prop := n ∈ nints pool
theorem nin_nat {pool : List Nat} {n : Int} (h : nin pool n) : ∃ m, m ∈ pool ∧ n = (m : Int) := by
  obtain ⟨m, hm, e⟩ := List.mem_map.mp h
  exact ⟨m, hm, e.symm⟩
/-- the lambdas' tables -/
structure ArmT (base : Heap) (mg : Str → Option Value) (T : List (Addr × Str)) (c P : Addr) (q : Str) : Prop where
  tb : TabB base mg c P
  mem : (P, lq q) ∈ T
  one : ∀ p ∈ T, p.1 = P → p.2 = lq q
theorem ArmT.up {base b2 : Heap} {mg : Str → Option Value} {T : List (Addr × Str)} {c P : Addr} {q : Str} (h : ArmT base mg T c P q) (up : ∀ b o, base.get? b = some o → b2.get? b = some o) : ArmT b2 mg T c P q := ⟨tabB_up h.tb up, h.mem, h.one⟩
def sp_first_of (K : PySem.W.Frag) (T : List (Addr × Str)) (z : ArmP) (d : Disk) (l : List Ask) (G : Hp) (st : ArmS) (pool : List Nat) (g : Nat → Int) (H0 : Hp) (fk : Addr) : Sp := fun vs H Q _ => ∃ W : Addr, H = H0 ∧ vs = [.ref z.p, .ref W, .ref fk] ∧ ArmH K z d l G H st ∧ ArmC K z.C ∧
  H W = some (.lst ((nints pool).map V.int)) ∧ pool ≠ [] ∧ (∀ n ∈ pool, n < l.length) ∧ Tabs T H ∧ ∀ H', ExtN H H' → Tabs T H' → Q (.int ((pick (key3 l g) pool : Nat) : Int)) H'
theorem sc_first_of : FnScope ["self", "some", "key"] ["self", "some", "key"] (defScope s_first_of) := ⟨rfl, rfl, rfl, by decide +kernel, rfl, by decide +kernel, by decide +kernel⟩
section
variable {P : Program} {w : World} {K : PySem.W.Frag} {mg : Str → Option Value} {base : Heap}
theorem ok_first_of {k : Nat} {f cf Pf fk : Addr} {fd : FuncData} {T : List (Addr × Str)} {z : ArmP} {d : Disk} {l : List Ask} {G H0 : Hp} {st : ArmS} {pool : List Nat} {g : Nat → Int} (F : FunC K "first_of" "Arm.first_of" s_first_of f fd cf) (AT : ArmT base mg T cf Pf "Arm.first_of")
    (KF : KeyFn P w K mg base k fk (nin pool) (ExtN H0) (ansI fun n => g n.toNat)) (mb_min : mg "min" = none) : FnOk P w K mg base CX0 (k + 3) f fd ["self", "some", "key"] (sp_first_of K T z d l G st pool g H0 fk) := by
  refine F.ok sc_first_of (fun vs H Q E h => ?_) (fun A outer s H vs Q E hr h => ?_)
  · obtain ⟨W, _, rfl, _⟩ := h
    rfl
  · obtain ⟨W, rfl, rfl, hA, hC, hW, hne, hlt, hT, q⟩ := h
    have nd := sc_first_of.nd
    refine ⟨_, pss_one (ps_ret (pe_minL (T := T) (fr := ["key", "self"]) (js := [2, 0]) (k := k + 1) (lamC_by (defScope s_first_of) rfl AT.tb rfl AT.mem AT.one rfl (fun _ => rfl) (by decide +kernel) rfl) rfl hr (Nat.le_refl _) rfl mb_min (pv 1))), ?_⟩
    have hne' : nints pool ≠ [] := fun e => hne (List.map_eq_nil_iff.mp e)
    refine ⟨_, rfl, hT, W, nints pool, rfl, hW, hne', fun c' H2 eN T2 hc' => ⟨fun n => key3 l g n.toNat, fun _ => rfl, fun b2 fl up B => ?_, fun m H' E' hm hle => ?_⟩⟩
    · refine keyFn_lam (k := k) (N := ["number", "key", "self"]) (fr := ["key", "self"]) (x := "number") (nscope_by (by show nscB _ ["number"] _ (Scope.mk .function [("number", .local), ("key", .free), ("self", .free)] false false []) = true; decide +kernel)) B (fun _ _ _ => rfl) (fun H3 E3 => E3.same _ _ hc') (fun b3 A3 outer3 s3 H3 n up3 hr3 E3 hn => ?_)
      obtain ⟨m, hm, rfl⟩ := nin_nat hn
      have hA3 := hA.keep (eN.trans (.of E3.same))
      obtain ⟨xs, qa, hL, hlen, hq, hTq, _⟩ := hA3.ask (hlt m hm)
      refine ⟨_, pe_tup (pa_cons (pe_key (i := 1) KF (fun b o h => up3 b o (up b o h)) hr3 (Nat.le_refl _) rfl (.inr (.inr rfl)) (pa_cons (pv 0) pa_nil)) (pa_cons (pe_ix (r := rIxT K) ix_tup (pe_ix (r := rIxL K) ix_list (pe_fld (pv 2) rfl) (pv 0) (fun _ _ => rfl)) pe_int (fun _ _ => rfl)) (pa_cons (pv 0) pa_nil))), ?_⟩
      refine ⟨rfl, _, rfl, _, rfl, hn, eN.trans (.of E3.same), fun v H4 hv => ?_⟩
      obtain ⟨rfl, rfl⟩ := hv
      refine ⟨_, rfl, z.p, z.C, z.dx, _, _, rfl, hA3.ins, hC.cl, hC.asks, rfl, _, rfl, z.b, xs, _, _, rfl, rfl, hL, atI_nat hq, ?_⟩
      refine ⟨qa, _, 0, _, rfl, rfl, hTq, atI_nat (j := 0) rfl, ?_⟩
      exact ⟨_, rfl, (by show 3 ≤ sizeLine; decide), fun p hp => ⟨p, rfl, hp, rfl⟩⟩
    · obtain ⟨n, hn, rfl⟩ := nin_nat hm
      have e : n = pick (key3 l g) pool := pick_is (key3_len l g) (key3_inj l g) hn fun i hi => hle (i : Int) (List.mem_map.mpr ⟨i, hi, rfl⟩)
      rw [e]
      exact q H' (eN.trans (.of E'.same)) (T2.ext E'.same)
end
end Ag

namespace Ag
open PySem PySem.Spec PyProof.Rows L2
/-! ### swept, looped -/
open LamX NdefX
/-- all but the arm stays -/
def KeepP (z : ArmP) (H H' : Hp) : Prop := ∀ b o, b ≠ z.p → H b = some o → (∀ ps, o ≠ .tbl ps) → H' b = some o
theorem KeepP.of {z : ArmP} {H H' : Hp} (e : ExtN H H') : KeepP z H H' := fun b o _ h n => e b o h n
theorem KeepP.trans {z : ArmP} {H H1 H2 : Hp} (a : KeepP z H H1) (b : KeepP z H1 H2) : KeepP z H H2 := fun c o n h t => b c o n (a c o n h t) t
abbrev s_swept : Stmt := mth 4
def sp_swept (K : PySem.W.Frag) (T : List (Addr × Str)) : Sp := fun vs H Q _ => ∃ (z : ArmP) (d : Disk) (l : List Ask) (G : Hp) (st : ArmS) (pool : List Nat) (W : Addr), vs = [.ref z.p, .ref W] ∧ ArmH K z d l G H st ∧ ArmC K z.C ∧ l.length ≤ 40 ∧ pool.length ≤ 40 ∧
  H W = some (.lst ((nints pool).map V.int)) ∧ pool ≠ [] ∧ (∀ n ∈ pool, n < l.length) ∧ Tabs T H ∧ ∀ H', KeepP z H H' → Tabs T H' → ArmH K z d l G H' { st with up := sweptU l st pool } → Q (.int ((sweptN l st pool : Nat) : Int)) H'
theorem sc_swept : FnScope ["self", "some", "ahead", "number"] ["self", "some"] (defScope s_swept) := ⟨rfl, rfl, rfl, by decide +kernel, rfl, by decide +kernel, by decide +kernel⟩
theorem ArmH.turn {K : PySem.W.Frag} {z : ArmP} {d : Disk} {l : List Ask} {G H : Hp} {s s' : ArmS} (h : ArmH K z d l G H s) (e : s'.left = s.left) : ArmH K z d l G (upd H z.p (.ins z.C z.dx (flds z s'))) s' :=
  ⟨h.nt, fun b o k => by rw [upd_ne (ne_of_none k h.gp)]; exact h.sub b o k, h.gp, h.gL, h.dk, h.ak, upd_same, by rw [upd_ne (ne_of h.lf h.ins (by intro q; cases q)), e]; exact h.lf, by rw [e]; exact h.lt⟩
theorem put_up (z : ArmP) (s : ArmS) (u : Bool) : putF "up" (.bl u) (flds z s) = flds z { s with up := u } := by kernel_rfl
theorem put_now (z : ArmP) (s : ArmS) (u : Int) : putF "now" (.int u) (flds z s) = flds z { s with now := u } := by kernel_rfl
theorem put_here (z : ArmP) (s : ArmS) (u : Int) : putF "here" (.int u) (flds z s) = flds z { s with here := u } := by kernel_rfl
/-- the reading of self.first_of(some, lambda ..) -/
theorem first_read {X : Cx} {T : List (Addr × Str)} {params : Arguments} {body : Expr} {scope : Scope} {fr : List Str} {js : List Nat} {f1 c1 P1 Wp : Addr} {fd1 : FuncData} {iw : Nat} {σ : L2.St} {H : Hp} {Q : VK} {z : ArmP} {d : Disk} {l : List Ask} {G : Hp} {st : ArmS} {pool : List Nat} {g : Nat → Int}
    (F1 : FunC X.K "first_of" "Arm.first_of" s_first_of f1 fd1 c1) (AT1 : ArmT X.base X.mg T c1 P1 "Arm.first_of") (mb_min : X.mg "min" = none) (h0 : σ[0]? = some (some (.ref z.p))) (hw : σ[iw]? = some (some (.ref Wp))) (hA : ArmH X.K z d l G H st) (AC : ArmC X.K z.C) (hT : Tabs T H)
    (hW : H Wp = some (.lst ((nints pool).map V.int))) (hne : pool ≠ []) (hlt : ∀ n ∈ pool, n < l.length)
    (KF : ∀ (b2 : Heap) (fl c' : Addr) (H3 : Hp), (∀ b o, X.base.get? b = some o → b2.get? b = some o) → LamB b2 fl (lamF X params scope c') params body fr (js.map (slotAt σ)) → ExtN H H3 → H3 c' = some (CodeO c' (X.env.qual ++ "<lambda>")) →
      KeyFn X.prog X.w X.K X.mg b2 2 fl (nin pool) (ExtN H3) (ansI fun n => g n.toNat))
    (q : ∀ H', ExtN H H' → Tabs T H' → Q (.int ((pick (key3 l g) pool : Nat) : Int)) H') : tMethL X T params body scope fr js 5 z.C f1 fd1 ["self", "some", "key"] "first_of" (tVar 0) (tVar iw) σ H Q :=
  ⟨_, h0, z.p, z.dx, _, rfl, hA.ins, rfl, _, hw, hT, fun c' H3 eN T3 hc' => ⟨fun fl => sp_first_of X.K T z d l G st pool g H3 fl, fun b2 fl up _ _ B => ok_first_of F1 (AT1.up up) (KF b2 fl c' H3 up B eN hc') mb_min,
    fun fl => ⟨Wp, rfl, rfl, hA.keep eN, AC, eN _ _ hW (fun ps z => by cases z), hne, hlt, T3, fun H' e t => q H' (eN.trans e) t⟩⟩⟩
section
variable {P : Program} {w : World} {K : PySem.W.Frag} {mg : Str → Option Value} {base : Heap}
theorem ok_swept {f cs Ps f1 c1 P1 f2 : Addr} {fd fd1 fd2 : FuncData} {T : List (Addr × Str)} {C : Addr} (F : FunC K "swept" "Arm.swept" s_swept f fd cs) (AT : ArmT base mg T cs Ps "Arm.swept")
    (F1 : FunC K "first_of" "Arm.first_of" s_first_of f1 fd1 c1) (AT1 : ArmT base mg T c1 P1 "Arm.first_of") (M_first_of : ∀ C, ArmC K C → Mt K C "first_of" f1 fd1 ["self", "some", "key"])
    (G_far0 : ∀ base : Heap, FnOk P w K mg base CX0 1 f2 fd2 ["self", "number"] (sp_far K)) (M_far0 : ∀ C, ArmC K C → Mt K C "far" f2 fd2 ["self", "number"])
    (mb_min : mg "min" = none) (mb_abs : mg "abs" = none) (mb_int : mg "int" = none) : FnOk P w K mg base CX0 6 f fd ["self", "some"] (sp_swept K T) := by
  refine F.ok sc_swept (fun vs H Q E h => ?_) (fun A outer s H vs Q E hr h => ?_)
  · obtain ⟨z, d, l, G, st, pool, W, rfl, _⟩ := h
    rfl
  · obtain ⟨z, d, l, G, st, pool, W, rfl, hA, AC, h40, hp40, hW, hne, hlt, hT, q⟩ := h
    have nd := sc_swept.nd
    have M_far := M_far0 _ AC
    have M_first_of := M_first_of _ AC
    have G_far := G_far0 base
    have hr_far : Room 1 _ := hr.mono (by decide)
    refine ⟨_, (pss_cons (ps_setLc (i := 2) (own := [("number", 3)]) (g := (gName 3)) rfl nd rfl rfl (sw_true rfl rfl rfl (by decide +kernel)) (pi_list (pv 1)) (blkOk_by (own := [("number", 3)]) (N := ["self", "some", "ahead", "number"]) (sc := defScope s_swept) (by decide +kernel)) (fun _ _ _ _ _ => (pg_name (i := 3) nd rfl (.inl rfl))) (fun _ _ _ _ _ => (pts_one (pt_cmpR op_ge (pe_op op_mul (pe_meth (pv 0) AC.cl M_far.m G_far hr_far M_far.b .nil pass0 (pa_cons (pv 3) pa_nil)) (pe_op op_sub (pe_op op_mul pe_int (pe_callTy call_int1 (by rfl) mb_int (by decide +kernel) (pa_cons (pe_fldK (K := K) (pv 0)) pa_nil))) pe_int)) pe_int (nomark _)))) (fun _ _ _ _ _ => (pv 3)))
      (pss_cons (ps_if (pt_cmpR (op_eqD hr.units) (pv 2) (pe_lst pa_nil) (nomark _)) (pss_cons (ps_fld (pv 0) (pe_not (pe_fld (pv 0) rfl)) rfl)
      (pss_one (ps_set (i := 2) nd rfl (.inl rfl) (pv 1)))) pss_nil)
      (pss_one (ps_ret (pe_methL (T := T) (fr := ["self"]) (js := [0]) (lamC_by (defScope s_swept) rfl AT.tb rfl AT.mem AT.one rfl (fun _ => rfl) (by decide +kernel) rfl) (pv 0) (pv 2) AC.cl M_first_of.m hr M_first_of.b))))), ?_⟩
    have hlenW : ((nints pool).map V.int).length = pool.length := by rw [List.length_map, nints_len]
    refine ⟨_, rfl, W, rfl, ⟨_, SqL.of hW⟩, fun D hD => ?_⟩
    have s1 := same_new (o := .lst []) hD
    refine lc_list (K := K) (a := W) (xs := (nints pool).map V.int) (fun i H' => Same H H' ∧ H' D = some (.lst ((nints ((pool.take i).filter fun n => decide (0 ≤ (trk l n - st.here) * (2 * b1 st.up - 1)))).map V.int))) ⟨s1, upd_same⟩ (fun i H' _ ⟨s, _⟩ => SqL.of (s _ _ hW)) ?_ ?_
    · rintro i x H' hi ⟨s2, eD⟩
      obtain ⟨n, hn, rfl⟩ := nints_at hi
      have hA2 := hA.same s2
      refine ⟨rfl, _, rfl, z.p, z.dx, _, rfl, hA2.ins, rfl, _, rfl, z, d, l, G, st, n, rfl, hA2, AC, hlt n (List.mem_of_getElem? hn), ?_⟩
      refine ⟨_, rfl, z.p, z.C, z.dx, _, _, rfl, hA2.ins, AC.cl, AC.up, rfl, .inr ⟨_, rfl, ?_⟩⟩
      refine ⟨_, _, rfl, rfl, .inl ⟨by decide, by decide⟩, _, _, rfl, rfl, _, _, rfl, rfl, .inr ⟨?_, ?_⟩, _, _, rfl, rfl, _, rfl, ?_⟩
      · split <;> decide
      · split <;> decide
      · have hb : (if st.up = true then (1 : Int) else 0) = b1 st.up := rfl
        rw [hb]
        refine if2d (fun hc => ⟨_, rfl, _, eD, small1000 (Nat.le_trans nints_filter_len (by omega)), same_upd s2 hD, ?_⟩) (fun hc => ⟨s2, ?_⟩)
        · rw [upd_same, filter_step hn, if_pos (decide_eq_true hc)]
          unfold nints
          rw [List.map_append, List.map_append]
          rfl
        · rw [eD, filter_step hn, if_neg (by rw [decide_eq_false hc]; exact Bool.false_ne_true), List.append_nil]
    · rintro H' ⟨s2, eD⟩
      rw [hlenW, List.take_of_length_le (Nat.le_refl _)] at eD
      have eD : H' D = some (.lst ((nints (aheadU l st pool)).map V.int)) := eD
      refine ⟨_, rfl, Nat.zero_le _, fun e he => ?_⟩
      have s3 := same_new (o := .lst []) he
      have s23 := s2.trans s3
      refine ⟨.list ((nints (aheadU l st pool)).map PyData.int), .list [], dp_ints_of (SqL.of (s3 _ _ eD)), .lst (SqL.of upd_same) .nil, shaped_ints _, rfl, _, rfl, ?_⟩
      rw [eqv_nil]
      refine if2d (fun hz => ?_) (fun hz => ?_)
      · have hz' : aheadU l st pool = [] := List.map_eq_nil_iff.mp hz
        have hA3 := hA.same s23
        refine ⟨_, rfl, z.p, z.C, z.dx, _, _, rfl, hA3.ins, AC.cl, AC.up, rfl, _, rfl, _, rfl, z.p, z.C, z.dx, _, rfl, hA3.ins, AC.cl, AC.up, (by show (6 : Nat) < 1000; decide), ?_⟩
        have hA5 := hA3.turn (s' := { st with up := !st.up }) rfl
        rw [put_up]
        have nWp : W ≠ z.p := ne_of (s23 _ _ hW) hA3.ins (by intro q; cases q)
        have hW5 : upd (upd H' e (.lst [])) z.p (.ins z.C z.dx (flds z { st with up := !st.up })) W = some (.lst ((nints pool).map V.int)) := by rw [upd_ne nWp]; exact s23 _ _ hW
        have hT5 : Tabs T (upd (upd H' e (.lst [])) z.p (.ins z.C z.dx (flds z { st with up := !st.up }))) := fun t ht => by
          obtain ⟨ps, t1, t2, t3⟩ := (hT.ext s23) t ht
          have up : ∀ b o, (upd H' e (.lst [])) b = some o → (∀ C dx fs, o ≠ .ins C dx fs) → upd (upd H' e (.lst [])) z.p (.ins z.C z.dx (flds z { st with up := !st.up })) b = some o := fun b o h n => by
            rw [upd_ne fun q => n _ _ _ (Option.some.inj (h.symm.trans (by rw [q]; exact hA3.ins)))]
            exact h
          exact ⟨ps, up _ _ t1 (by intro _ _ _ q; cases q), t2, fun pos cv hc => let ⟨c0, e1, e2⟩ := t3 pos cv hc; ⟨c0, e1, up _ _ e2 (by intro _ _ _ q; cases q)⟩⟩
        have kp5 : KeepP z H (upd (upd H' e (.lst [])) z.p (.ins z.C z.dx (flds z { st with up := !st.up }))) := fun b o n h _ => by
          rw [upd_ne n]
          exact s23 _ _ h
        revert hA5 hW5 hT5 kp5
        generalize upd (upd H' e (.lst [])) z.p (.ins z.C z.dx (flds z { st with up := !st.up })) = H5
        intro hA5 hW5 hT5 kp5
        refine ⟨_, rfl, ?_⟩
        refine first_read (g := farK l st) F1 AT1 mb_min rfl rfl hA5 AC hT5 hW5 hne hlt (fun b2 fl c' H3 up B eN hc' => ?_) (fun H' e t => ?_)
        · refine keyFn_lam (k := 1) (x := "number") (N := ["number", "self"]) (fr := ["self"]) (nscope_by (by kernel_rfl)) B (fun _ _ _ => rfl) (fun H E' => E' _ _ hc' codeO_ne) (fun b3 A3 outer3 s3 H4 n up3 hr3 E4 hn => ?_)
          obtain ⟨m, hm, rfl⟩ := nin_nat hn
          have hA4 := hA5.keep (eN.trans E4)
          have hr_far : Room 1 _ := hr3
          have G_far := G_far0 b3
          refine ⟨_, pe_callB call_abs (by rfl) mb_abs (by decide +kernel) (pa_cons (pe_meth (pv 1) AC.cl M_far.m G_far hr_far M_far.b .nil pass0 (pa_cons (pv 0) pa_nil)) pa_nil), ?_⟩
          exact ⟨_, rfl, z.p, z.dx, _, rfl, hA4.ins, rfl, _, rfl, z, d, l, G, _, m, rfl, hA4, AC, hlt m hm, _, rfl, rfl, rfl⟩
        · have e1 : sweptN l st pool = pick (key3 l (farK l st)) pool := by unfold sweptN; rw [if_pos hz']
          have e2 : sweptU l st pool = !st.up := by unfold sweptU; rw [if_pos hz']
          rw [← e1]
          refine q H' (kp5.trans (.of e)) t ?_
          rw [e2]
          exact hA5.keep e
      · have hz' : aheadU l st pool ≠ [] := fun e => hz (by rw [e]; rfl)
        have hA3 := hA.same s23
        have hla : ∀ n ∈ aheadU l st pool, n < l.length := fun n hn => hlt n (List.mem_filter.mp hn).1
        refine first_read (g := farK l st) F1 AT1 mb_min rfl rfl hA3 AC (hT.ext s23) (s3 _ _ eD) hz' hla (fun b2 fl c' H3 up B eN hc' => ?_) (fun H' e t => ?_)
        · refine keyFn_lam (k := 1) (x := "number") (N := ["number", "self"]) (fr := ["self"]) (nscope_by (by kernel_rfl)) B (fun _ _ _ => rfl) (fun H E' => E' _ _ hc' codeO_ne) (fun b3 A3 outer3 s3 H4 n up3 hr3 E4 hn => ?_)
          obtain ⟨m, hm, rfl⟩ := nin_nat hn
          have hA4 := hA3.keep (eN.trans E4)
          have hr_far : Room 1 _ := hr3
          have G_far := G_far0 b3
          refine ⟨_, pe_callB call_abs (by rfl) mb_abs (by decide +kernel) (pa_cons (pe_meth (pv 1) AC.cl M_far.m G_far hr_far M_far.b .nil pass0 (pa_cons (pv 0) pa_nil)) pa_nil), ?_⟩
          exact ⟨_, rfl, z.p, z.dx, _, rfl, hA4.ins, rfl, _, rfl, z, d, l, G, st, m, rfl, hA4, AC, hla m hm, _, rfl, rfl, rfl⟩
        · have e1 : sweptN l st pool = pick (key3 l (farK l st)) (aheadU l st pool) := by unfold sweptN; rw [if_neg hz']
          have e2 : sweptU l st pool = st.up := by unfold sweptU; rw [if_neg hz']
          rw [← e1]
          refine q H' (.of ((ExtN.of s23).trans e)) t ?_
          rw [e2]
          exact hA3.keep e
end
end Ag

namespace Ag
open PySem PySem.Spec PyProof.Rows L2
/-! ### looped, chosen -/
open LamX NdefX
/-- the reading of self.first_of(e, lambda ..), behind e -/
theorem first_inner {X : Cx} {T : List (Addr × Str)} {params : Arguments} {body : Expr} {scope : Scope} {fr : List Str} {js : List Nat} {f1 c1 P1 Wp : Addr} {fd1 : FuncData} {σ : L2.St} {H : Hp} {Q : VK} {z : ArmP} {d : Disk} {l : List Ask} {G : Hp} {st : ArmS} {pool : List Nat} {g : Nat → Int}
    (F1 : FunC X.K "first_of" "Arm.first_of" s_first_of f1 fd1 c1) (AT1 : ArmT X.base X.mg T c1 P1 "Arm.first_of") (mb_min : X.mg "min" = none) (hA : ArmH X.K z d l G H st) (AC : ArmC X.K z.C) (hT : Tabs T H)
    (hW : H Wp = some (.lst ((nints pool).map V.int))) (hne : pool ≠ []) (hlt : ∀ n ∈ pool, n < l.length)
    (KF : ∀ (b2 : Heap) (fl c' : Addr) (H3 : Hp), (∀ b o, X.base.get? b = some o → b2.get? b = some o) → LamB b2 fl (lamF X params scope c') params body fr (js.map (slotAt σ)) → ExtN H H3 → H3 c' = some (CodeO c' (X.env.qual ++ "<lambda>")) →
      KeyFn X.prog X.w X.K X.mg b2 2 fl (nin pool) (ExtN H3) (ansI fun n => g n.toNat))
    (q : ∀ H', ExtN H H' → Tabs T H' → Q (.int ((pick (key3 l g) pool : Nat) : Int)) H') : Tabs T H ∧ ∀ (c' : Addr) (H3 : Hp), ExtN H H3 → Tabs T H3 → H3 c' = some (CodeO c' (X.env.qual ++ "<lambda>")) → ∃ sp : Addr → Sp,
    (∀ (b2 : Heap) (f : Addr), (∀ b o, X.base.get? b = some o → b2.get? b = some o) → X.K.In b2 → b2.Ns mainGlobals X.mg → LamB b2 f (lamF X params scope c') params body fr (js.map (slotAt σ)) → FnOk X.prog X.w X.K X.mg b2 CX0 5 f1 fd1 ["self", "some", "key"] (sp f)) ∧
    ∀ f, sp f [.ref z.p, .ref Wp, .ref f] H3 Q E0 :=
  ⟨hT, fun c' H3 eN T3 hc' => ⟨fun fl => sp_first_of X.K T z d l G st pool g H3 fl, fun b2 fl up _ _ B => ok_first_of F1 (AT1.up up) (KF b2 fl c' H3 up B eN hc') mb_min,
    fun fl => ⟨Wp, rfl, rfl, hA.keep eN, AC, eN _ _ hW (fun ps z => by cases z), hne, hlt, T3, fun H' e t => q H' (eN.trans e) t⟩⟩⟩
abbrev s_looped : Stmt := mth 5
def sp_looped (K : PySem.W.Frag) (T : List (Addr × Str)) : Sp := fun vs H Q _ => ∃ (z : ArmP) (d : Disk) (l : List Ask) (G : Hp) (st : ArmS) (pool : List Nat) (W : Addr), vs = [.ref z.p, .ref W] ∧ ArmH K z d l G H st ∧ ArmC K z.C ∧ l.length ≤ 40 ∧ pool.length ≤ 40 ∧
  H W = some (.lst ((nints pool).map V.int)) ∧ pool ≠ [] ∧ (∀ n ∈ pool, n < l.length) ∧ Tabs T H ∧ ∀ H', ExtN H H' → Tabs T H' → Q (.int ((loopedN l st pool : Nat) : Int)) H'
theorem sc_looped : FnScope ["self", "some", "ahead", "number"] ["self", "some"] (defScope s_looped) := ⟨rfl, rfl, rfl, by decide +kernel, rfl, by decide +kernel, by decide +kernel⟩
section
variable {P : Program} {w : World} {K : PySem.W.Frag} {mg : Str → Option Value} {base : Heap}
theorem ok_looped {f cs Ps f1 c1 P1 f2 : Addr} {fd fd1 fd2 : FuncData} {T : List (Addr × Str)} (F : FunC K "looped" "Arm.looped" s_looped f fd cs) (AT : ArmT base mg T cs Ps "Arm.looped")
    (F1 : FunC K "first_of" "Arm.first_of" s_first_of f1 fd1 c1) (AT1 : ArmT base mg T c1 P1 "Arm.first_of") (M_first_of : ∀ C, ArmC K C → Mt K C "first_of" f1 fd1 ["self", "some", "key"])
    (G_far0 : ∀ base : Heap, FnOk P w K mg base CX0 1 f2 fd2 ["self", "number"] (sp_far K)) (M_far0 : ∀ C, ArmC K C → Mt K C "far" f2 fd2 ["self", "number"])
    (mb_min : mg "min" = none) : FnOk P w K mg base CX0 6 f fd ["self", "some"] (sp_looped K T) := by
  refine F.ok sc_looped (fun vs H Q E h => ?_) (fun A outer s H vs Q E hr h => ?_)
  · obtain ⟨z, d, l, G, st, pool, W, rfl, _⟩ := h
    rfl
  · obtain ⟨z, d, l, G, st, pool, W, rfl, hA, AC, h40, hp40, hW, hne, hlt, hT, q⟩ := h
    have nd := sc_looped.nd
    have M_far := M_far0 _ AC
    have M_first_of := M_first_of _ AC
    have G_far := G_far0 base
    have hr_far : Room 1 _ := hr.mono (by decide)
    refine ⟨_, (pss_cons (ps_setLc (i := 2) (own := [("number", 3)]) (g := (gName 3)) rfl nd rfl rfl (sw_true rfl rfl rfl (by decide +kernel)) (pi_list (pv 1)) (blkOk_by (own := [("number", 3)]) (N := ["self", "some", "ahead", "number"]) (sc := defScope s_looped) (by decide +kernel)) (fun _ _ _ _ _ => (pg_name (i := 3) nd rfl (.inl rfl))) (fun _ _ _ _ _ => (pts_one (pt_cmpR op_ge (pe_meth (pv 0) AC.cl M_far.m G_far hr_far M_far.b .nil pass0 (pa_cons (pv 3) pa_nil)) pe_int (nomark _)))) (fun _ _ _ _ _ => (pv 3)))
      (pss_one (ps_ret (pe_methL (T := T) (fr := ["self"]) (js := [0]) (lamC_by (defScope s_looped) rfl AT.tb rfl AT.mem AT.one rfl (fun _ => rfl) (by decide +kernel) rfl) (pv 0) (pe_ifExp (pt_cmpR (op_neD hr.units) (pv 2) (pe_lst pa_nil) (nomark _)) (pv 2) (pv 1)) AC.cl M_first_of.m hr M_first_of.b)))), ?_⟩
    have hlenW : ((nints pool).map V.int).length = pool.length := by rw [List.length_map, nints_len]
    refine ⟨_, rfl, W, rfl, ⟨_, SqL.of hW⟩, fun D hD => ?_⟩
    have s1 := same_new (o := .lst []) hD
    refine lc_list (K := K) (a := W) (xs := (nints pool).map V.int) (fun i H' => Same H H' ∧ H' D = some (.lst ((nints ((pool.take i).filter fun n => decide (0 ≤ trk l n - st.here))).map V.int))) ⟨s1, upd_same⟩ (fun i H' _ ⟨s, _⟩ => SqL.of (s _ _ hW)) ?_ ?_
    · rintro i x H' hi ⟨s2, eD⟩
      obtain ⟨n, hn, rfl⟩ := nints_at hi
      have hA2 := hA.same s2
      refine ⟨rfl, _, rfl, z.p, z.dx, _, rfl, hA2.ins, rfl, _, rfl, z, d, l, G, st, n, rfl, hA2, AC, hlt n (List.mem_of_getElem? hn), ?_⟩
      refine ⟨_, _, rfl, rfl, _, rfl, ?_⟩
      refine if2d (fun hc => ⟨_, rfl, _, eD, small1000 (Nat.le_trans nints_filter_len (by omega)), same_upd s2 hD, ?_⟩) (fun hc => ⟨s2, ?_⟩)
      · rw [upd_same, filter_step hn, if_pos (decide_eq_true hc)]
        unfold nints
        rw [List.map_append, List.map_append]
        rfl
      · rw [eD, filter_step hn, if_neg (by rw [decide_eq_false hc]; exact Bool.false_ne_true), List.append_nil]
    · rintro H' ⟨s2, eD⟩
      rw [hlenW, List.take_of_length_le (Nat.le_refl _)] at eD
      have eD : H' D = some (.lst ((nints (aheadL l st pool)).map V.int)) := eD
      have hA2 := hA.same s2
      refine ⟨_, rfl, z.p, z.dx, _, rfl, hA2.ins, rfl, ?_⟩
      refine ⟨_, rfl, Nat.zero_le _, fun e he => ?_⟩
      have s3 := same_new (o := .lst []) he
      have s23 := s2.trans s3
      have hA3 := hA.same s23
      refine ⟨.list ((nints (aheadL l st pool)).map PyData.int), .list [], dp_ints_of (SqL.of (s3 _ _ eD)), .lst (SqL.of upd_same) .nil, shaped_ints _, rfl, _, rfl, ?_⟩
      rw [eqv_nil]
      by_cases hz : aheadL l st pool = []
      · have e1 : loopedN l st pool = pick (key3 l (trk l)) pool := by unfold loopedN; rw [if_pos hz]
        rw [hz]
        refine iteF ⟨_, rfl, ?_⟩
        refine first_inner (g := trk l) F1 AT1 mb_min hA3 AC (hT.ext s23) (s23 _ _ hW) hne hlt (fun b2 fl c' H3 up B eN hc' => ?_) (fun H' e t => by rw [← e1]; exact q H' ((ExtN.of s23).trans e) t)
        refine keyFn_lam (k := 1) (x := "number") (N := ["number", "self"]) (fr := ["self"]) (nscope_by (by kernel_rfl)) B (fun _ _ _ => rfl) (fun H E' => E' _ _ hc' codeO_ne) (fun b3 A3 outer3 s3 H4 n up3 hr3 E4 hn => ?_)
        obtain ⟨m, hm, rfl⟩ := nin_nat hn
        have hA4 := hA3.keep (eN.trans E4)
        obtain ⟨xs, qa, hL, hlen, hq, hTq, _⟩ := hA4.ask (hlt m hm)
        refine ⟨_, pe_ix (r := rIxT K) ix_tup (pe_ix (r := rIxL K) ix_list (pe_fld (pv 1) rfl) (pv 0) (fun _ _ => rfl)) pe_int (fun _ _ => rfl), ?_⟩
        refine ⟨_, rfl, z.p, z.C, z.dx, _, _, rfl, hA4.ins, AC.cl, AC.asks, rfl, _, rfl, z.b, xs, _, _, rfl, rfl, hL, atI_nat hq, ?_⟩
        exact ⟨qa, _, 1, _, rfl, rfl, hTq, atI_nat (j := 1) rfl, rfl, rfl⟩
      · have e1 : loopedN l st pool = pick (key3 l (trk l)) (aheadL l st pool) := by unfold loopedN; rw [if_neg hz]
        have hz' : nints (aheadL l st pool) ≠ [] := fun q => hz (List.map_eq_nil_iff.mp q)
        rw [decide_eq_false hz']
        have hla : ∀ n ∈ aheadL l st pool, n < l.length := fun n hn => hlt n (List.mem_filter.mp hn).1
        refine iteT ⟨_, rfl, ?_⟩
        refine first_inner (g := trk l) F1 AT1 mb_min hA3 AC (hT.ext s23) (s3 _ _ eD) hz hla (fun b2 fl c' H3 up B eN hc' => ?_) (fun H' e t => by rw [← e1]; exact q H' ((ExtN.of s23).trans e) t)
        refine keyFn_lam (k := 1) (x := "number") (N := ["number", "self"]) (fr := ["self"]) (nscope_by (by kernel_rfl)) B (fun _ _ _ => rfl) (fun H E' => E' _ _ hc' codeO_ne) (fun b3 A3 outer3 s3 H4 n up3 hr3 E4 hn => ?_)
        obtain ⟨m, hm, rfl⟩ := nin_nat hn
        have hA4 := hA3.keep (eN.trans E4)
        obtain ⟨xs, qa, hL, hlen, hq, hTq, _⟩ := hA4.ask (hla m hm)
        refine ⟨_, pe_ix (r := rIxT K) ix_tup (pe_ix (r := rIxL K) ix_list (pe_fld (pv 1) rfl) (pv 0) (fun _ _ => rfl)) pe_int (fun _ _ => rfl), ?_⟩
        refine ⟨_, rfl, z.p, z.C, z.dx, _, _, rfl, hA4.ins, AC.cl, AC.asks, rfl, _, rfl, z.b, xs, _, _, rfl, rfl, hL, atI_nat hq, ?_⟩
        exact ⟨qa, _, 1, _, rfl, rfl, hTq, atI_nat (j := 1) rfl, rfl, rfl⟩
end
/-! ### chosen -/
abbrev s_chosen : Stmt := mth 6
def sp_chosen (K : PySem.W.Frag) (T : List (Addr × Str)) : Sp := fun vs H Q _ => ∃ (z : ArmP) (d : Disk) (l : List Ask) (G : Hp) (st : ArmS) (pool : List Nat) (W : Addr) (r : Rule), vs = [.ref z.p, .str (ruleS r), .ref W] ∧ ArmH K z d l G H st ∧ ArmC K z.C ∧ GoodDisk d ∧ l.length ≤ 40 ∧ pool.length ≤ 40 ∧
  H W = some (.lst ((nints pool).map V.int)) ∧ pool ≠ [] ∧ (∀ n ∈ pool, n < l.length) ∧ Tabs T H ∧ ∀ H', KeepP z H H' → Tabs T H' → ArmH K z d l G H' { st with up := choseU l st pool r } → Q (.int ((choseN d l st pool r : Nat) : Int)) H'
theorem sc_chosen : FnScope ["self", "rule", "some"] ["self", "rule", "some"] (defScope s_chosen) := ⟨rfl, rfl, rfl, by decide +kernel, rfl, by decide +kernel, by decide +kernel⟩
theorem str_ne {a b : Str} (h : a ≠ b) : ¬ V.str a = V.str b := fun e => h (V.str.inj e)
section
variable {P : Program} {w : World} {K : PySem.W.Frag} {mg : Str → Option Value} {base : Heap}
theorem ok_chosen {f cs Ps f1 c1 P1 f2 f3 f4 f5 : Addr} {fd fd1 fd2 fd3 fd4 fd5 : FuncData} {T : List (Addr × Str)} (F : FunC K "chosen" "Arm.chosen" s_chosen f fd cs) (AT : ArmT base mg T cs Ps "Arm.chosen")
    (F1 : FunC K "first_of" "Arm.first_of" s_first_of f1 fd1 c1) (AT1 : ArmT base mg T c1 P1 "Arm.first_of") (M_first_of : ∀ C, ArmC K C → Mt K C "first_of" f1 fd1 ["self", "some", "key"])
    (G_far0 : ∀ base : Heap, FnOk P w K mg base CX0 1 f2 fd2 ["self", "number"] (sp_far K)) (M_far0 : ∀ C, ArmC K C → Mt K C "far" f2 fd2 ["self", "number"])
    (G_swept : FnOk P w K mg base CX0 6 f3 fd3 ["self", "some"] (sp_swept K T)) (M_swept0 : ∀ C, ArmC K C → Mt K C "swept" f3 fd3 ["self", "some"])
    (G_looped : FnOk P w K mg base CX0 6 f4 fd4 ["self", "some"] (sp_looped K T)) (M_looped0 : ∀ C, ArmC K C → Mt K C "looped" f4 fd4 ["self", "some"])
    (G_served0 : ∀ base : Heap, FnOk P w K mg base CX0 1 f5 fd5 ["disk", "now", "here", "ask"] (sp_served K)) (C_served : Cal K mg "served" f5 fd5 ["disk", "now", "here", "ask"])
    (mb_min : mg "min" = none) (mb_abs : mg "abs" = none) : FnOk P w K mg base CX0 7 f fd ["self", "rule", "some"] (sp_chosen K T) := by
  refine F.ok sc_chosen (fun vs H Q E h => ?_) (fun A outer s H vs Q E hr h => ?_)
  · obtain ⟨z, d, l, G, st, pool, W, r, rfl, _⟩ := h
    rfl
  · obtain ⟨z, d, l, G, st, pool, W, r, rfl, hA, AC, gd, h40, hp40, hW, hne, hlt, hT, q⟩ := h
    have nd := sc_chosen.nd
    have M_far := M_far0 _ AC
    have M_first_of := M_first_of _ AC
    have M_swept := M_swept0 _ AC
    have M_looped := M_looped0 _ AC
    have hr_swept : Room 6 _ := hr
    have hr_looped : Room 6 _ := hr
    have hr5 : Room 5 _ := hr.mono (by decide)
    refine ⟨_, (pss_cons (ps_if (pt_cmpR op_eq (pv 1) pe_str (nomark _)) (pss_one (ps_ret (pe_methL (T := T) (fr := []) (js := []) (lamC_by (defScope s_chosen) rfl AT.tb rfl AT.mem AT.one rfl (fun _ => rfl) (by decide +kernel) rfl) (pv 0) (pv 2) AC.cl M_first_of.m hr5 M_first_of.b))) pss_nil)
      (pss_cons (ps_if (pt_cmpR op_eq (pv 1) pe_str (nomark _)) (pss_one (ps_ret (pe_methL (T := T) (fr := ["self"]) (js := [0]) (lamC_by (defScope s_chosen) rfl AT.tb rfl AT.mem AT.one rfl (fun _ => rfl) (by decide +kernel) rfl) (pv 0) (pv 2) AC.cl M_first_of.m hr5 M_first_of.b))) pss_nil)
      (pss_cons (ps_if (pt_cmpR op_eq (pv 1) pe_str (nomark _)) (pss_one (ps_ret (pe_methL (T := T) (fr := ["self"]) (js := [0]) (lamC_by (defScope s_chosen) rfl AT.tb rfl AT.mem AT.one rfl (fun _ => rfl) (by decide +kernel) rfl) (pv 0) (pv 2) AC.cl M_first_of.m hr5 M_first_of.b))) pss_nil)
      (pss_one (ps_ret (pe_ifExp (pt_cmpR op_eq (pv 1) pe_str (nomark _)) (pe_meth (pv 0) AC.cl M_swept.m G_swept hr_swept M_swept.b .nil pass0 (pa_cons (pv 2) pa_nil)) (pe_meth (pv 0) AC.cl M_looped.m G_looped hr_looped M_looped.b .nil pass0 (pa_cons (pv 2) pa_nil)))))))), ?_⟩
    have no : ∀ {a b : Str} {A B : Prop}, a ≠ b → B → if decide (V.str a = V.str b) = true then A else B := fun h b => ifd_f (str_ne h) b
    cases r with
    | first =>
      refine ⟨_, rfl, rfl, _, rfl, ifd_t rfl ?_⟩
      refine first_read (g := fun _ => 0) F1 AT1 mb_min rfl rfl hA AC hT hW hne hlt (fun b2 fl c' H3 up B eN hc' => ?_) (fun H' e t => q H' (.of e) t (hA.keep e))
      refine keyFn_lam (k := 1) (x := "number") (N := ["number"]) (fr := []) (nscope_by (by kernel_rfl)) B (fun _ _ _ => rfl) (fun H E' => E' _ _ hc' codeO_ne) (fun b3 A3 outer3 s3 H4 n up3 hr3 E4 hn => ?_)
      exact ⟨_, pe_int, rfl, rfl⟩
    | near =>
      refine ⟨_, rfl, rfl, _, rfl, no (by decide +kernel) ⟨_, rfl, rfl, _, rfl, ifd_t rfl ?_⟩⟩
      refine first_read (g := farK l st) F1 AT1 mb_min rfl rfl hA AC hT hW hne hlt (fun b2 fl c' H3 up B eN hc' => ?_) (fun H' e t => q H' (.of e) t (hA.keep e))
      refine keyFn_lam (k := 1) (x := "number") (N := ["number", "self"]) (fr := ["self"]) (nscope_by (by kernel_rfl)) B (fun _ _ _ => rfl) (fun H E' => E' _ _ hc' codeO_ne) (fun b3 A3 outer3 s3 H4 n up3 hr3 E4 hn => ?_)
      obtain ⟨m, hm, rfl⟩ := nin_nat hn
      have hA4 := hA.keep (eN.trans E4)
      have hr_far : Room 1 _ := hr3
      have G_far := G_far0 b3
      refine ⟨_, pe_callB call_abs (by rfl) mb_abs (by decide +kernel) (pa_cons (pe_meth (pv 1) AC.cl M_far.m G_far hr_far M_far.b .nil pass0 (pa_cons (pv 0) pa_nil)) pa_nil), ?_⟩
      exact ⟨_, rfl, z.p, z.dx, _, rfl, hA4.ins, rfl, _, rfl, z, d, l, G, _, m, rfl, hA4, AC, hlt m hm, _, rfl, rfl, rfl⟩
    | soon =>
      refine ⟨_, rfl, rfl, _, rfl, no (by decide +kernel) ⟨_, rfl, rfl, _, rfl, no (by decide +kernel) ⟨_, rfl, rfl, _, rfl, ifd_t rfl ?_⟩⟩⟩
      refine first_read (g := soonK d l st) F1 AT1 mb_min rfl rfl hA AC hT hW hne hlt (fun b2 fl c' H3 up B eN hc' => ?_) (fun H' e t => q H' (.of e) t (hA.keep e))
      refine keyFn_lam (k := 1) (x := "number") (N := ["number", "self"]) (fr := ["self"]) (nscope_by (by kernel_rfl)) B (fun _ _ _ => rfl) (fun H E' => E' _ _ hc' codeO_ne) (fun b3 A3 outer3 s3 H4 n up3 hr3 E4 hn => ?_)
      obtain ⟨m, hm, rfl⟩ := nin_nat hn
      have hA4 := hA.keep (eN.trans E4)
      obtain ⟨xs, qa, hL, hlen, hq, hTq, hdq⟩ := hA4.ask (hlt m hm)
      have hr_served : Room 1 _ := hr3
      have G_served := G_served0 b3
      refine ⟨_, pe_call G_served hr_served rfl C_served.m C_served.k C_served.b .nil pass0 (pa_cons (pe_fld (pv 1) rfl) (pa_cons (pe_fld (pv 1) rfl) (pa_cons (pe_fld (pv 1) rfl) (pa_cons (pe_ix (r := rIxL K) ix_list (pe_fld (pv 1) rfl) (pv 0) (fun _ _ => rfl)) pa_nil)))), ?_⟩
      refine ⟨_, rfl, z.p, z.C, z.dx, _, _, rfl, hA4.ins, AC.cl, AC.disk, rfl, _, rfl, z.p, z.C, z.dx, _, _, rfl, hA4.ins, AC.cl, AC.now, rfl, _, rfl, z.p, z.C, z.dx, _, _, rfl, hA4.ins, AC.cl, AC.here, rfl, _, rfl, z.p, z.C, z.dx, _, _, rfl, hA4.ins, AC.cl, AC.asks, rfl, _, rfl, z.b, xs, _, _, rfl, rfl, hL, atI_nat hq, ?_⟩
      exact ⟨_, _, d, _, _, l.getD m (0, 0, 0), rfl, dp_same hA4.sub hA4.dk, hdq, gd, rfl, rfl⟩
    | sweep =>
      refine ⟨_, rfl, rfl, _, rfl, no (by decide +kernel) ⟨_, rfl, rfl, _, rfl, no (by decide +kernel) ⟨_, rfl, rfl, _, rfl, no (by decide +kernel) ⟨_, rfl, rfl, _, rfl, ifd_t rfl ?_⟩⟩⟩⟩
      exact ⟨_, rfl, z.p, z.dx, _, rfl, hA.ins, rfl, _, rfl, z, d, l, G, st, pool, W, rfl, hA, AC, h40, hp40, hW, hne, hlt, hT, q⟩
    | loop =>
      refine ⟨_, rfl, rfl, _, rfl, no (by decide +kernel) ⟨_, rfl, rfl, _, rfl, no (by decide +kernel) ⟨_, rfl, rfl, _, rfl, no (by decide +kernel) ⟨_, rfl, rfl, _, rfl, no (by decide +kernel) ?_⟩⟩⟩⟩
      exact ⟨_, rfl, z.p, z.dx, _, rfl, hA.ins, rfl, _, rfl, z, d, l, G, st, pool, W, rfl, hA, AC, h40, hp40, hW, hne, hlt, hT, fun H' e t => q H' (.of e) t (hA.keep e)⟩
end
end Ag

namespace Ag
open PySem PySem.Spec PyProof.Rows L2
/-! ### waiting, serve -/
open LamX NdefX
abbrev s_waiting : Stmt := mth 1
def sp_waiting (K : PySem.W.Frag) : Sp := fun vs H Q _ => ∃ (z : ArmP) (d : Disk) (l : List Ask) (G : Hp) (st : ArmS), vs = [.ref z.p] ∧ ArmH K z d l G H st ∧ ArmC K z.C ∧ st.left.length ≤ 40 ∧ st.left ≠ [] ∧
  ∀ (H' : Hp) (W : Addr), SameBut z.p H H' → ArmH K z d l G H' (wake l st) → H' W = some (.lst ((nints (waitN l st)).map V.int)) → Q (.ref W) H'
theorem sc_waiting : FnScope ["self", "number"] ["self"] (defScope s_waiting) := ⟨rfl, rfl, rfl, by decide +kernel, rfl, by decide +kernel, by decide +kernel⟩
theorem come_read {K : PySem.W.Frag} {z : ArmP} {d : Disk} {l : List Ask} {G H : Hp} {st : ArmS} {Q : VK} (hA : ArmH K z d l G H st) (AC : ArmC K z.C) (h40 : st.left.length ≤ 40) (q : ∀ H' D, Same H H' → H' D = some (.lst ((nints (arrived l st.now st.left)).map V.int)) → Q (.ref D) H') :
    tLc (iList K (tFld K (tVar 0) (Str.ofString "left"))) (gName 1) (tTest (tOp (rI0 fun i j => V.bl (decide (i ≤ j))) (tOp (rIxT K) (tOp (rIxL K) (tFld K (tVar 0) (Str.ofString "asks")) (tVar 1)) (tC (V.int 0))) (tFld K (tVar 0) (Str.ofString "now")))) (tVar 1) [1] [some (.ref z.p), none] H Q := by
  have hlenL : ((nints st.left).map V.int).length = st.left.length := by rw [List.length_map, nints_len]
  refine ⟨_, rfl, z.p, z.C, z.dx, _, _, rfl, hA.ins, AC.cl, AC.left, rfl, z.Lf, rfl, ⟨_, SqL.of hA.lf⟩, fun D hD => ?_⟩
  have s1 := same_new (o := .lst []) hD
  refine lc_list (K := K) (a := z.Lf) (xs := (nints st.left).map V.int) (fun i H' => Same H H' ∧ H' D = some (.lst ((nints ((st.left.take i).filter fun n => decide (come l n ≤ st.now))).map V.int))) ⟨s1, upd_same⟩ (fun i H' _ ⟨s, _⟩ => SqL.of (s _ _ hA.lf)) ?_ ?_
  · rintro i x H' hi ⟨s2, eD⟩
    obtain ⟨n, hn, rfl⟩ := nints_at hi
    have hA2 := hA.same s2
    obtain ⟨xs, qa, hL, hlen, hq, hTq, _⟩ := hA2.ask (hA.lt n (List.mem_of_getElem? hn))
    refine ⟨rfl, _, rfl, z.p, z.C, z.dx, _, _, rfl, hA2.ins, AC.cl, AC.asks, rfl, _, rfl, z.b, xs, _, _, rfl, rfl, hL, atI_nat hq, qa, _, 0, _, rfl, rfl, hTq, atI_nat (j := 0) rfl, ?_⟩
    refine ⟨_, rfl, z.p, z.C, z.dx, _, _, rfl, hA2.ins, AC.cl, AC.now, rfl, _, _, rfl, rfl, _, rfl, ?_⟩
    refine if2d (fun hc => ⟨_, rfl, _, eD, small1000 (Nat.le_trans nints_filter_len (by omega)), same_upd s2 hD, ?_⟩) (fun hc => ⟨s2, ?_⟩)
    · rw [upd_same, filter_step hn, if_pos (decide_eq_true hc)]
      unfold nints
      rw [List.map_append, List.map_append]
      rfl
    · rw [eD, filter_step hn, if_neg (by rw [decide_eq_false hc]; exact Bool.false_ne_true), List.append_nil]
  · rintro H' ⟨s2, eD⟩
    rw [hlenL, List.take_of_length_le (Nat.le_refl _)] at eD
    exact q H' D s2 eD
section
variable {P : Program} {w : World} {K : PySem.W.Frag} {mg : Str → Option Value} {base : Heap}
theorem ok_waiting {f : Addr} {fd : FuncData} (F : Fun K "waiting" "Arm.waiting" s_waiting f fd) (mb_min : mg "min" = none) : FnOk P w K mg base CX0 1 f fd ["self"] (sp_waiting K) := by
  refine F.ok sc_waiting (fun vs H Q E h => ?_) (fun cdv A outer s H vs Q E hr h => ?_)
  · obtain ⟨z, d, l, G, st, rfl, _⟩ := h
    rfl
  · obtain ⟨z, d, l, G, st, rfl, hA, AC, h40, hne, q⟩ := h
    have nd := sc_waiting.nd
    refine ⟨_, (pss_cons (ps_if (pt_cmpR (op_eqD hr.units) (pe_lc (own := [("number", 1)]) (g := (gName 1)) rfl nd (pi_list (pe_fld (pv 0) rfl)) (blkOk_by (own := [("number", 1)]) (N := ["self", "number"]) (sc := defScope s_waiting) (by decide +kernel)) (fun _ _ _ _ _ => (pg_name (i := 1) nd rfl (.inl rfl))) (fun _ _ _ _ _ => (pts_one (pt_cmpR op_le (pe_ix (r := rIxT K) ix_tup (pe_ix (r := rIxL K) ix_list (pe_fldK (K := K) (pv 0)) (pv 1) (fun _ _ => rfl)) pe_int (fun _ _ => rfl)) (pe_fldK (K := K) (pv 0)) (nomark _)))) (fun _ _ _ _ _ => (pv 1))) (pe_lst pa_nil) (nomark _)) (pss_one (ps_fld (pv 0) (pe_callB (cr_min rfl) (by rfl) mb_min (by decide +kernel) (pa_cons (pe_lc (own := [("number", 1)]) (g := (gName 1)) (tt := tYes) rfl nd (pi_list (pe_fld (pv 0) rfl)) (blkOk_by (own := [("number", 1)]) (N := ["self", "number"]) (sc := defScope s_waiting) (by decide +kernel)) (fun _ _ _ _ _ => (pg_name (i := 1) nd rfl (.inl rfl))) (fun _ _ _ _ _ => pts_nil) (fun _ _ _ _ _ => (pe_ix (r := rIxT K) ix_tup (pe_ix (r := rIxL K) ix_list (pe_fldK (K := K) (pv 0)) (pv 1) (fun _ _ => rfl)) pe_int (fun _ _ => rfl)))) pa_nil)) rfl)) pss_nil)
      (pss_one (ps_ret (pe_lc (own := [("number", 1)]) (g := (gName 1)) rfl nd (pi_list (pe_fld (pv 0) rfl)) (blkOk_by (own := [("number", 1)]) (N := ["self", "number"]) (sc := defScope s_waiting) (by decide +kernel)) (fun _ _ _ _ _ => (pg_name (i := 1) nd rfl (.inl rfl))) (fun _ _ _ _ _ => (pts_one (pt_cmpR op_le (pe_ix (r := rIxT K) ix_tup (pe_ix (r := rIxL K) ix_list (pe_fldK (K := K) (pv 0)) (pv 1) (fun _ _ => rfl)) pe_int (fun _ _ => rfl)) (pe_fldK (K := K) (pv 0)) (nomark _)))) (fun _ _ _ _ _ => (pv 1)))))), ?_⟩
    refine rd_seq (rd_if (rd_test (rd_op (come_read hA AC h40 fun H' D s2 eD => ?_))))
    refine ⟨Nat.zero_le _, fun e he => ?_⟩
    have s3 := same_new (o := .lst []) he
    have s23 := s2.trans s3
    have hA3 := hA.same s23
    refine ⟨.list ((nints (arrived l st.now st.left)).map PyData.int), .list [], dp_ints_of (SqL.of (s3 _ _ eD)), .lst (SqL.of upd_same) .nil, shaped_ints _, rfl, _, rfl, ?_⟩
    rw [eqv_nil]
    revert hA3 s23
    generalize upd H' e (.lst []) = H3
    intro s23 hA3
    refine if2d (fun hz => ?_) (fun hz => ?_)
    · have hz' : arrived l st.now st.left = [] := List.map_eq_nil_iff.mp hz
      refine ⟨_, rfl, z.p, z.C, z.dx, _, _, rfl, hA3.ins, AC.cl, AC.left, rfl, z.Lf, rfl, ⟨_, SqL.of hA3.lf⟩, fun D2 hD2 => ?_⟩
      have t1 := same_new (o := .lst []) hD2
      have hlenL : ((nints st.left).map V.int).length = st.left.length := by rw [List.length_map, nints_len]
      refine lc_list (K := K) (a := z.Lf) (xs := (nints st.left).map V.int) (fun i H' => Same H3 H' ∧ H' D2 = some (.lst (((st.left.take i).map (come l)).map V.int))) ⟨t1, upd_same⟩ (fun i H' _ ⟨s, _⟩ => SqL.of (s _ _ hA3.lf)) ?_ ?_
      · rintro i x H4 hi ⟨t2, eD2⟩
        obtain ⟨n, hn, rfl⟩ := nints_at hi
        have hA4 := hA3.same t2
        obtain ⟨xs, qa, hL, hlen, hq, hTq, _⟩ := hA4.ask (hA.lt n (List.mem_of_getElem? hn))
        refine ⟨rfl, _, rfl, z.p, z.C, z.dx, _, _, rfl, hA4.ins, AC.cl, AC.asks, rfl, _, rfl, z.b, xs, _, _, rfl, rfl, hL, atI_nat hq, qa, _, 0, _, rfl, rfl, hTq, atI_nat (j := 0) rfl, ?_⟩
        refine ⟨_, eD2, ?_, same_upd t2 hD2, ?_⟩
        · rw [List.length_map, List.length_map, List.length_take]
          exact small1000 (by omega)
        · rw [upd_same, take_more hn, List.map_append, List.map_append]
          rfl
      · rintro H4 ⟨t2, eD2⟩
        rw [hlenL, List.take_of_length_le (Nat.le_refl _)] at eD2
        have hA4 := hA3.same t2
        have hpos : 0 < (st.left.map (come l)).length := by rw [List.length_map]; exact List.length_pos_iff.mpr hne
        refine ⟨D2, st.left.map (come l), rfl, SqL.of eD2, hpos, fun m hm hle => ?_⟩
        have em : m = wakeNow l st := by
          unfold wakeNow
          rw [if_pos hz']
          exact leastI_is hm hle
        subst em
        refine ⟨_, rfl, z.p, z.C, z.dx, _, rfl, hA4.ins, AC.cl, AC.now, (by show (6 : Nat) < 1000; decide), ?_⟩
        rw [put_now]
        have hA5 : ArmH K z d l G (upd H4 z.p (.ins z.C z.dx (flds z (wake l st)))) (wake l st) := hA4.turn rfl
        have sb5 : SameBut z.p H (upd H4 z.p (.ins z.C z.dx (flds z (wake l st)))) := sb_upd (sb_of (s23.trans t2))
        refine rd_ret (come_read (st := wake l st) hA5 AC h40 fun H' D3 s5 eD3 => ?_)
        exact q H' D3 (sb_trans sb5 (sb_of s5)) (hA5.same s5) eD3
    · have hz' : arrived l st.now st.left ≠ [] := fun e => hz (by rw [e]; rfl)
      have ew : wake l st = st := by
        unfold wake wakeNow
        rw [if_neg hz']
      refine rd_next (rd_ret (come_read hA3 AC h40 fun H' D3 s5 eD3 => ?_))
      refine q H' D3 (sb_of (s23.trans s5)) ?_ ?_
      · rw [ew]
        exact hA3.same s5
      · have : waitN l st = arrived l st.now st.left := by
          unfold waitN wakeNow
          rw [if_neg hz']
        rw [this]
        exact eD3
end
end Ag

namespace Ag
open PySem PySem.Spec PyProof.Rows L2
/-! ### serve -/
open LamX NdefX
def KeepA (z : ArmP) (H H' : Hp) : Prop := ∀ b o, b ≠ z.p → b ≠ z.Lf → H b = some o → (∀ ps, o ≠ .tbl ps) → H' b = some o
theorem KeepA.trans {z : ArmP} {H H1 H2 : Hp} (a : KeepA z H H1) (b : KeepA z H1 H2) : KeepA z H H2 := fun c o n m h t => b c o n m (a c o n m h t) t
theorem tabs_upd {T : List (Addr × Str)} {H : Hp} {p : Addr} {o o' : HO} (h : Tabs T H) (e : H p = some o) (n1 : ∀ ps, o ≠ .tbl ps) (n2 : ∀ φ, o ≠ .ext φ) : Tabs T (upd H p o') := fun t ht => by
  obtain ⟨ps, t1, t2, t3⟩ := h t ht
  refine ⟨ps, by rw [upd_ne fun q => n1 ps (Option.some.inj (e.symm.trans (by rw [← q]; exact t1)))]; exact t1, t2, fun pos cv hc => ?_⟩
  obtain ⟨c0, e1, e2⟩ := t3 pos cv hc
  exact ⟨c0, e1, by rw [upd_ne fun q => n2 _ (Option.some.inj (e.symm.trans (by rw [← q]; exact e2)))]; exact e2⟩
theorem tabs_but {T : List (Addr × Str)} {H H' : Hp} {p : Addr} {o : HO} (h : Tabs T H) (e : H p = some o) (n1 : ∀ ps, o ≠ .tbl ps) (n2 : ∀ φ, o ≠ .ext φ) (s : SameBut p H H') : Tabs T H' := fun t ht => by
  obtain ⟨ps, t1, t2, t3⟩ := h t ht
  refine ⟨ps, s _ _ (fun q => n1 ps (Option.some.inj (e.symm.trans (by rw [← q]; exact t1)))) t1, t2, fun pos cv hc => ?_⟩
  obtain ⟨c0, e1, e2⟩ := t3 pos cv hc
  exact ⟨c0, e1, s _ _ (fun q => n2 _ (Option.some.inj (e.symm.trans (by rw [← q]; exact e2)))) e2⟩
theorem erase_at {n : Nat} : ∀ {os : List Nat} {j : Nat}, os[j]? = some n → (∀ m, m < j → os[m]? ≠ some n) → os.eraseIdx j = os.erase n
  | [], _, h, _ => by simp at h
  | x :: r, 0, h, _ => by
    have e : x = n := Option.some.inj h
    subst e
    rw [List.erase_cons_head]
    rfl
  | x :: r, j + 1, h, hn => by
    have e : x ≠ n := fun z => hn 0 (Nat.succ_pos _) (by rw [z]; rfl)
    rw [List.erase_cons_tail (by simpa using e)]
    have := erase_at (os := r) (j := j) h fun m hm => hn (m + 1) (by omega)
    show x :: r.eraseIdx j = _
    rw [this]
theorem first_at {n : Nat} : ∀ {os : List Nat}, n ∈ os → ∃ j : Nat, os[j]? = some n ∧ ∀ m : Nat, m < j → os[m]? ≠ some n
  | x :: r, h => by
    by_cases e : x = n
    · exact ⟨0, by rw [e]; rfl, fun m hm => absurd hm (by omega)⟩
    · obtain ⟨j, h1, h2⟩ := first_at (os := r) ((List.mem_cons.mp h).resolve_left fun z => e z.symm)
      refine ⟨j + 1, h1, fun m hm => ?_⟩
      cases m with
      | zero => exact fun z => e (Option.some.inj z)
      | succ m => exact h2 m (by omega)
theorem nints_erase (os : List Nat) (j : Nat) : (nints os).eraseIdx j = nints (os.eraseIdx j) := by
  unfold nints
  induction os generalizing j with
  | nil => rfl
  | cons x r ih =>
    cases j with
    | zero => rfl
    | succ j =>
      show (x : Int) :: (r.map _).eraseIdx j = (x : Int) :: (r.eraseIdx j).map _
      rw [ih]
theorem nints_some {os : List Nat} {j n : Nat} : (nints os)[j]? = some (n : Int) ↔ os[j]? = some n := by
  unfold nints
  rw [List.getElem?_map]
  cases os[j]? with
  | none => simp
  | some m =>
    constructor
    · intro h
      have h : ((m : Nat) : Int) = n := Option.some.inj h
      rw [show m = n by omega]
    · intro h
      rw [Option.some.inj h]
      rfl
/-- what is chosen is one of those who wait -/
theorem choseN_mem (d : Disk) (l : List Ask) (st : ArmS) (pool : List Nat) (r : Rule) (h : pool ≠ []) : choseN d l st pool r ∈ pool := by
  have one : ∀ g : Nat → Int, pick (key3 l g) pool ∈ pool := fun g => pick_mem (key3_len l g) h
  cases r with
  | first => exact one _
  | near => exact one _
  | soon => exact one _
  | sweep =>
    show sweptN l st pool ∈ pool
    unfold sweptN
    by_cases hz : aheadU l st pool = []
    · rw [if_pos hz]
      exact one _
    · rw [if_neg hz]
      exact (List.mem_filter.mp (pick_mem (key3_len l _) hz)).1
  | loop =>
    show loopedN l st pool ∈ pool
    unfold loopedN
    by_cases hz : aheadL l st pool = []
    · rw [if_pos hz]
      exact one _
    · rw [if_neg hz]
      exact (List.mem_filter.mp (pick_mem (key3_len l _) hz)).1
theorem waitN_ne {l : List Ask} {st : ArmS} (h : st.left ≠ []) : waitN l st ≠ [] := by
  unfold waitN wakeNow
  by_cases hz : arrived l st.now st.left = []
  · rw [if_pos hz]
    intro e
    have hne : st.left.map (come l) ≠ [] := fun q => h (List.map_eq_nil_iff.mp q)
    have hm : leastI (st.left.map (come l)) ∈ st.left.map (come l) := by
      cases hl : st.left.map (come l) with
      | nil => exact absurd hl hne
      | cons x r => exact (leastI_go r x).1
    obtain ⟨n, hn, e2⟩ := List.mem_map.mp hm
    have : n ∈ arrived l (leastI (st.left.map (come l))) st.left := List.mem_filter.mpr ⟨hn, decide_eq_true (by rw [e2]; exact Int.le_refl _)⟩
    rw [e] at this
    cases this
  · rw [if_neg hz]
    exact hz
theorem waitN_sub {l : List Ask} {st : ArmS} : ∀ n ∈ waitN l st, n ∈ st.left := fun n hn => (List.mem_filter.mp hn).1
theorem waitN_len {l : List Ask} {st : ArmS} : (waitN l st).length ≤ st.left.length := List.length_filter_le _ _
theorem nextN_mem {d : Disk} {l : List Ask} {r : Rule} {st : ArmS} (h : st.left ≠ []) : nextN d l r st ∈ st.left := waitN_sub _ (choseN_mem d l _ _ r (waitN_ne h))
abbrev s_serve : Stmt := mth 7
def sp_serve (K : PySem.W.Frag) (T : List (Addr × Str)) : Sp := fun vs H Q _ => ∃ (z : ArmP) (d : Disk) (l : List Ask) (G : Hp) (st : ArmS) (r : Rule), vs = [.ref z.p, .str (ruleS r)] ∧ ArmH K z d l G H st ∧ ArmC K z.C ∧ GoodDisk d ∧ l.length ≤ 40 ∧ st.left.length ≤ 40 ∧ st.left ≠ [] ∧ Tabs T H ∧
  ∀ (H' : Hp) (t : Addr), KeepA z H H' → Tabs T H' → ArmH K z d l G H' (nextS d l r st) → (∀ o, H t = some o → ∃ ps, o = .tbl ps) → H' t = some (.tup [.int ((nextN d l r st : Nat) : Int), .int (nextS d l r st).now]) → Q (.ref t) H'
theorem sc_serve : FnScope ["self", "rule", "number"] ["self", "rule"] (defScope s_serve) := ⟨rfl, rfl, rfl, by decide +kernel, rfl, by decide +kernel, by decide +kernel⟩
section
variable {P : Program} {w : World} {K : PySem.W.Frag} {mg : Str → Option Value} {base : Heap}
theorem ok_serve {f f1 f2 f5 : Addr} {fd fd1 fd2 fd5 : FuncData} {T : List (Addr × Str)} (F : Fun K "serve" "Arm.serve" s_serve f fd)
    (G_waiting : FnOk P w K mg base CX0 1 f1 fd1 ["self"] (sp_waiting K)) (M_waiting0 : ∀ C, ArmC K C → Mt K C "waiting" f1 fd1 ["self"])
    (G_chosen : FnOk P w K mg base CX0 7 f2 fd2 ["self", "rule", "some"] (sp_chosen K T)) (M_chosen0 : ∀ C, ArmC K C → Mt K C "chosen" f2 fd2 ["self", "rule", "some"])
    (G_served : FnOk P w K mg base CX0 1 f5 fd5 ["disk", "now", "here", "ask"] (sp_served K)) (C_served : Cal K mg "served" f5 fd5 ["disk", "now", "here", "ask"]) : FnOk P w K mg base CX0 8 f fd ["self", "rule"] (sp_serve K T) := by
  refine F.ok sc_serve (fun vs H Q E h => ?_) (fun cdv A outer s H vs Q E hr h => ?_)
  · obtain ⟨z, d, l, G, st, r, rfl, _⟩ := h
    rfl
  · obtain ⟨z, d, l, G, st, r, rfl, hA, AC, gd, h40, hp40, hne, hT, q⟩ := h
    have nd := sc_serve.nd
    have M_waiting := M_waiting0 _ AC
    have M_chosen := M_chosen0 _ AC
    have hr_waiting : Room 1 _ := hr.mono (by decide)
    have hr_chosen : Room 7 _ := hr
    have hr_served : Room 1 _ := hr.mono (by decide)
    refine ⟨_, (pss_cons (ps_set (i := 2) nd rfl (.inl rfl) (pe_meth (pv 0) AC.cl M_chosen.m G_chosen hr_chosen M_chosen.b .nil pass0 (pa_cons (pv 1) (pa_cons (pe_meth0 (pv 0) AC.cl M_waiting.m G_waiting hr_waiting M_waiting.b .nil pass0) pa_nil))))
      (pss_cons (ps_fld (pv 0) (pe_call G_served hr_served rfl C_served.m C_served.k C_served.b .nil pass0 (pa_cons (pe_fld (pv 0) rfl) (pa_cons (pe_fld (pv 0) rfl) (pa_cons (pe_fld (pv 0) rfl) (pa_cons (pe_ix (r := rIxL K) ix_list (pe_fld (pv 0) rfl) (pv 2) (fun _ _ => rfl)) pa_nil))))) rfl)
      (pss_cons (ps_fld (pv 0) (pe_ix (r := rIxT K) ix_tup (pe_ix (r := rIxL K) ix_list (pe_fld (pv 0) rfl) (pv 2) (fun _ _ => rfl)) pe_int (fun _ _ => rfl)) rfl)
      (pss_cons (ps_expr (pe_bm PySem.F.plainAttrs_list PySem.F.slot_list_remove PySem.F.type_list_remove mt_remove (pe_fld (pv 0) rfl) (pa_cons (pv 2) pa_nil)))
      (pss_one (ps_ret (pe_tup (pa_cons (pv 2) (pa_cons (pe_fld (pv 0) rfl) pa_nil))))))))), ?_⟩
    refine ⟨_, rfl, z.p, z.dx, _, rfl, hA.ins, rfl, _, rfl, _, rfl, z.p, z.dx, _, rfl, hA.ins, rfl, z, d, l, G, st, rfl, hA, AC, hp40, hne, fun H1 W sb1 hA1 hW => ?_⟩
    have hT1 : Tabs T H1 := tabs_but hT hA.ins (by intro _ q; cases q) (by intro _ q; cases q) sb1
    have hlw : (waitN l st).length ≤ 40 := Nat.le_trans waitN_len hp40
    refine ⟨z, d, l, G, wake l st, waitN l st, W, r, rfl, hA1, AC, gd, h40, hlw, hW, waitN_ne hne, fun n hn => hA.lt n (waitN_sub n hn), hT1, fun H2 kp2 hT2 hA2 => ?_⟩
    have hnm : choseN d l (wake l st) (waitN l st) r ∈ st.left := nextN_mem hne
    have hnl := hA.lt _ hnm
    obtain ⟨xs, qa, hL, hlen, hq, hTq, hdq⟩ := hA2.ask hnl
    refine ⟨_, rfl, z.p, z.C, z.dx, _, _, rfl, hA2.ins, AC.cl, AC.disk, rfl, _, rfl, z.p, z.C, z.dx, _, _, rfl, hA2.ins, AC.cl, AC.now, rfl, _, rfl, z.p, z.C, z.dx, _, _, rfl, hA2.ins, AC.cl, AC.here, rfl, _, rfl, z.p, z.C, z.dx, _, _, rfl, hA2.ins, AC.cl, AC.asks, rfl, _, rfl, z.b, xs, _, _, rfl, rfl, hL, atI_nat hq, ?_⟩
    refine ⟨_, _, d, _, _, l.getD (nextN d l r st) (0, 0, 0), rfl, dp_same hA2.sub hA2.dk, hdq, gd, ?_⟩
    refine ⟨_, rfl, z.p, z.C, z.dx, _, rfl, hA2.ins, AC.cl, AC.now, (by show (6 : Nat) < 1000; decide), ?_⟩
    rw [put_now]
    have hA3 := hA2.turn (s' := ⟨(nextS d l r st).now, st.here, (nextS d l r st).up, st.left⟩) rfl
    have sb3 : SameBut z.p H2 (upd H2 z.p (.ins z.C z.dx (flds z ⟨(nextS d l r st).now, st.here, (nextS d l r st).up, st.left⟩))) := sb_upd sb_refl
    have hT3 := tabs_but hT2 hA2.ins (by intro _ q; cases q) (by intro _ q; cases q) sb3
    have kp3 : KeepP z H2 (upd H2 z.p (.ins z.C z.dx (flds z ⟨(nextS d l r st).now, st.here, (nextS d l r st).up, st.left⟩))) := fun b o n h _ => sb3 b o n h
    have fold : ∀ {A : Hp → Prop}, A (upd H2 z.p (.ins z.C z.dx (flds z ⟨(nextS d l r st).now, st.here, (nextS d l r st).up, st.left⟩))) → A (upd H2 z.p (.ins z.C z.dx (flds z { ({ wake l st with up := choseU l (wake l st) (waitN l st) r } : ArmS) with now := serve d (wakeNow l st) st.here (l.getD (nextN d l r st) (0, 0, 0)) }))) := fun h => h
    refine fold ?_
    revert hA3 hT3 kp3
    generalize upd H2 z.p (.ins z.C z.dx (flds z ⟨(nextS d l r st).now, st.here, (nextS d l r st).up, st.left⟩)) = H3
    intro hA3 hT3 kp3
    obtain ⟨xs3, qa3, hL3, hlen3, hq3, hTq3, _⟩ := hA3.ask hnl
    refine ⟨_, rfl, z.p, z.C, z.dx, _, _, rfl, hA3.ins, AC.cl, AC.asks, rfl, _, rfl, z.b, xs3, _, _, rfl, rfl, hL3, atI_nat hq3, qa3, _, 1, _, rfl, rfl, hTq3, atI_nat (j := 1) rfl, ?_⟩
    refine ⟨_, rfl, z.p, z.C, z.dx, _, rfl, hA3.ins, AC.cl, AC.here, (by show (6 : Nat) < 1000; decide), ?_⟩
    rw [put_here]
    have hA4 := hA3.turn (s' := ⟨(nextS d l r st).now, (nextS d l r st).here, (nextS d l r st).up, st.left⟩) rfl
    have sb4 : SameBut z.p H3 (upd H3 z.p (.ins z.C z.dx (flds z ⟨(nextS d l r st).now, (nextS d l r st).here, (nextS d l r st).up, st.left⟩))) := sb_upd sb_refl
    have hT4 := tabs_but hT3 hA3.ins (by intro _ q; cases q) (by intro _ q; cases q) sb4
    have kp4 : KeepP z H3 (upd H3 z.p (.ins z.C z.dx (flds z ⟨(nextS d l r st).now, (nextS d l r st).here, (nextS d l r st).up, st.left⟩))) := fun b o n h _ => sb4 b o n h
    have fold : ∀ {A : Hp → Prop}, A (upd H3 z.p (.ins z.C z.dx (flds z ⟨(nextS d l r st).now, (nextS d l r st).here, (nextS d l r st).up, st.left⟩))) → A (upd H3 z.p (.ins z.C z.dx (flds z { (⟨(nextS d l r st).now, st.here, (nextS d l r st).up, st.left⟩ : ArmS) with here := trk l (nextN d l r st) }))) := fun h => h
    refine fold ?_
    revert hA4 hT4 kp4
    generalize upd H3 z.p (.ins z.C z.dx (flds z ⟨(nextS d l r st).now, (nextS d l r st).here, (nextS d l r st).up, st.left⟩)) = H4
    intro hA4 hT4 kp4
    obtain ⟨j, hj, hjn⟩ := first_at hnm
    have hlf4 : H4 z.Lf = some (.lst ((nints st.left).map V.int)) := hA4.lf
    refine ⟨_, rfl, z.p, z.C, z.dx, _, _, rfl, hA4.ins, AC.cl, AC.left, rfl, .inl ⟨rfl, _, SqL.of hlf4⟩, _, rfl, z.Lf, nints st.left, ((nextN d l r st : Nat) : Int), j, rfl, rfl, hlf4, nints_some.mpr hj, fun m hm e => hjn m hm (nints_some.mp e), ?_⟩
    rw [nints_erase, erase_at hj hjn]
    have nLp : z.Lf ≠ z.p := ne_of hlf4 hA4.ins (by intro q; cases q)
    have hA5 : ArmH K z d l G (upd H4 z.Lf (.lst ((nints (st.left.erase (nextN d l r st))).map V.int))) (nextS d l r st) :=
      ⟨hA4.nt, fun b o k => by rw [upd_ne (ne_of_none k hA4.gL)]; exact hA4.sub b o k, hA4.gp, hA4.gL, hA4.dk, hA4.ak, by rw [upd_ne nLp.symm]; exact hA4.ins, upd_same, fun n hn => hA.lt n (List.mem_of_mem_erase hn)⟩
    have hT5 : Tabs T (upd H4 z.Lf (.lst ((nints (st.left.erase (nextN d l r st))).map V.int))) := tabs_upd hT4 hlf4 (by intro _ q; cases q) (by intro _ q; cases q)
    have kp5 : KeepA z H (upd H4 z.Lf (.lst ((nints (st.left.erase (nextN d l r st))).map V.int))) := fun b o n m h t => by
      rw [upd_ne m]
      exact kp4 b o n (kp3 b o n (kp2 b o n (sb1 b o n h) t) t) t
    have fold : ∀ {A : Hp → Prop}, A (upd H4 z.Lf (.lst ((nints (st.left.erase (nextN d l r st))).map V.int))) → A (upd H4 z.Lf (.lst ((nints (st.left.erase (choseN d l (wake l st) (waitN l st) r))).map V.int))) := fun h => h
    refine fold ?_
    revert hA5 hT5 kp5
    generalize upd H4 z.Lf (.lst ((nints (st.left.erase (nextN d l r st))).map V.int)) = H5
    intro hA5 hT5 kp5
    refine ⟨_, rfl, _, rfl, z.p, z.C, z.dx, _, _, rfl, hA5.ins, AC.cl, AC.now, rfl, (by show 2 ≤ sizeLine; decide), fun t ht => ?_⟩
    have s6 := same_new (o := HO.tup [.int ((nextN d l r st : Nat) : Int), .int (nextS d l r st).now]) ht
    refine q _ t (kp5.trans (fun b o _ _ h _ => s6 b o h)) (hT5.ext s6) (hA5.same s6) (fun o ho => ?_) upd_same
    by_cases hz : ∃ ps, o = .tbl ps
    · exact hz
    · have hz' : ∀ ps, o ≠ .tbl ps := fun ps e => hz ⟨ps, e⟩
      have ntp : t ≠ z.p := fun e => by rw [e, hA5.ins] at ht; cases ht
      have ntL : t ≠ z.Lf := fun e => by rw [e, hA5.lf] at ht; cases ht
      have := kp5 t o ntp ntL ho hz'
      rw [ht] at this
      cases this
end
end Ag

namespace Ag
open PySem PySem.Spec PyProof.Rows L2
/-! ### the arm made, rows_by -/
open LamX NdefX
abbrev s_init : Stmt := mth 0
def sp_init (K : PySem.W.Frag) : Sp := fun vs H Q _ => ∃ (C x dx a b : Addr) (d : Disk) (l : List Ask) (G : Hp), vs = [.ref x, .ref a, .ref b] ∧ (∀ b ps, G b ≠ some (.tbl ps)) ∧ Same G H ∧ G x = none ∧ Dp K G (.ref a) (dDisk d) ∧ Dp K G (.ref b) (dAsks l) ∧ H x = some (.ins C dx []) ∧ ArmC K C ∧ l.length ≤ 40 ∧
  ∀ (H' : Hp) (Lf : Addr), SameBut x H H' → ArmH K ⟨C, x, dx, a, b, Lf⟩ d l G H' (armS0 d l) → Q .non H'
theorem sc_init : FnScope ["self", "disk", "asks"] ["self", "disk", "asks"] (defScope s_init) := ⟨rfl, rfl, rfl, by decide +kernel, rfl, by decide +kernel, by decide +kernel⟩
theorem putF_le (f : Str) (v : V) : ∀ fs : List (Str × V), (putF f v fs).length ≤ fs.length + 1
  | [] => Nat.le_refl _
  | (g, x) :: r => by
    have ih := putF_le f v r
    unfold putF
    split
    · exact Nat.le_succ _
    · exact Nat.succ_le_succ ih
theorem lt1 {f : Str} {v : V} {n : Nat} {fs : List (Str × V)} (h : fs.length < n) : (putF f v fs).length < n + 1 := Nat.lt_of_le_of_lt (putF_le f v fs) (Nat.succ_lt_succ h)
/-- the heap less the tables -/
def ntH (H : Hp) : Hp := fun b => match H b with
  | some (.tbl _) => none
  | o => o
theorem ntH_some {H : Hp} {b : Addr} {o : HO} : ntH H b = some o ↔ H b = some o ∧ ∀ ps, o ≠ .tbl ps := by
  unfold ntH
  constructor
  · intro h
    cases e : H b with
    | none => rw [e] at h; cases h
    | some u =>
      rw [e] at h
      cases u with
      | tbl ps => cases h
      | _ => cases h; exact ⟨rfl, fun ps q => by cases q⟩
  · rintro ⟨h, n⟩
    rw [h]
    cases o with
    | tbl ps => exact absurd rfl (n ps)
    | _ => rfl
theorem ntH_nt (H : Hp) : ∀ b ps, ntH H b ≠ some (.tbl ps) := fun b ps e => (ntH_some.mp e).2 ps rfl
theorem ntH_sub (H : Hp) : Same (ntH H) H := fun b o e => (ntH_some.mp e).1
theorem ntH_keep {H H' : Hp} (e : ExtN H H') : Same (ntH H) H' := fun b o h => e b o (ntH_some.mp h).1 (ntH_some.mp h).2
theorem ntH_none {H : Hp} {b : Addr} (h : H b = none) : ntH H b = none := by unfold ntH; rw [h]
theorem ntH_mono {H H' : Hp} (e : ExtN H H') : Same (ntH H) (ntH H') := fun b o h => ntH_some.mpr ⟨ntH_keep e b o h, (ntH_some.mp h).2⟩
mutual
theorem dp_nt {K : PySem.W.Frag} {H : Hp} : ∀ {d : PyData} {v : V}, Dp K H v d → Dp K (ntH H) v d
  | .none, _, h => by cases h; exact .non
  | .bool _, _, h => by cases h; exact .bl _
  | .int _, _, h => by cases h; exact .int _
  | .str _, _, h => by cases h; exact .str _
  | .list _, _, h => by
    cases h with
    | lst hs ha =>
      refine .lst ?_ (dpa_nt ha)
      rcases hs with (h | ⟨o, h⟩) | h
      · exact .inl (.inl (ntH_some.mpr ⟨h, fun ps q => by cases q⟩))
      · exact .inl (.inr ⟨o, ntH_some.mpr ⟨h, fun ps q => by cases q⟩⟩)
      · exact .inr h
  | .tuple _, _, h => by
    cases h with
    | tup hs ha =>
      refine .tup ?_ (dpa_nt ha)
      rcases hs with (h | ⟨o, h⟩) | h
      · exact .inl (.inl (ntH_some.mpr ⟨h, fun ps q => by cases q⟩))
      · exact .inl (.inr ⟨o, ntH_some.mpr ⟨h, fun ps q => by cases q⟩⟩)
      · exact .inr h
  | .dict _, _, h => by cases h
theorem dpa_nt {K : PySem.W.Frag} {H : Hp} : ∀ {ds : List PyData} {vs : List V}, DpAll K H vs ds → DpAll K (ntH H) vs ds
  | [], _, h => by cases h; exact .nil
  | _ :: _, _, h => by
    cases h with
    | cons h1 h2 => exact .cons (dp_nt h1) (dpa_nt h2)
end
section
variable {P : Program} {w : World} {K : PySem.W.Frag} {mg : Str → Option Value} {base : Heap}
theorem ok_init {f : Addr} {fd : FuncData} (F : Fun K "__init__" "Arm.__init__" s_init f fd) (mb_list : mg "list" = none) (mb_range : mg "range" = none) (mb_len : mg "len" = none) : FnOk P w K mg base CX0 1 f fd ["self", "disk", "asks"] (sp_init K) := by
  refine F.ok sc_init (fun vs H Q E h => ?_) (fun cdv A outer s H vs Q E hr h => ?_)
  · obtain ⟨C, x, dx, a, b, d, l, G, rfl, _⟩ := h
    rfl
  · obtain ⟨C, x, dx, a, b, d, l, G, rfl, nt, sub, gx, dk, ak, hx, AC, h40, q⟩ := h
    have nd := sc_init.nd
    obtain ⟨a', e1, hT⟩ := dp_disk dk
    cases e1
    obtain ⟨b', xs, e2, hL, hlen, _⟩ := dp_asks ak
    cases e2
    refine ⟨_, (pss_cons (ps_fld (pv 0) (pv 1) rfl)
      (pss_cons (ps_fld (pv 0) (pv 2) rfl)
      (pss_cons (ps_fld (pv 0) pe_int rfl)
      (pss_cons (ps_fld (pv 0) (pe_ix (r := rIxT K) ix_tup (pv 1) pe_int (fun _ _ => rfl)) rfl)
      (pss_cons (ps_fld (pv 0) pe_bl rfl)
      (pss_one (ps_fld (pv 0) (pe_listRg rfl rfl mb_list (prg_1 rfl mb_range (pe_callB call_len_seq (by rfl) mb_len PySem.boot_len (pa_cons (pv 2) pa_nil)))) rfl))))))), ?_⟩
    have step : ∀ {H1 : Hp} {fs fs' : List (Str × V)}, Same G H1 → SameBut x H H1 → fs' = fs' → Same G (upd H1 x (.ins C dx fs')) ∧ SameBut x H (upd H1 x (.ins C dx fs')) := fun s1 s2 _ => ⟨same_upd s1 gx, sb_upd s2⟩
    refine ⟨_, rfl, _, rfl, x, C, dx, _, rfl, hx, AC.cl, AC.disk, (by decide), ?_⟩
    obtain ⟨g1, b1⟩ := step (fs := []) (fs' := putF "disk" (.ref a) []) sub sb_refl rfl
    refine ⟨_, rfl, _, rfl, x, C, dx, _, rfl, upd_same, AC.cl, AC.asks, (lt1 (by decide)), ?_⟩
    obtain ⟨g2, b2⟩ := step (fs := []) (fs' := putF "asks" (.ref b) (putF "disk" (.ref a) [])) g1 b1 rfl
    refine ⟨_, rfl, x, C, dx, _, rfl, upd_same, AC.cl, AC.now, (lt1 (lt1 (by decide))), ?_⟩
    obtain ⟨g3, b3⟩ := step (fs := []) (fs' := putF "now" (.int 0) (putF "asks" (.ref b) (putF "disk" (.ref a) []))) g2 b2 rfl
    refine ⟨_, rfl, a, _, 3, _, rfl, rfl, same_sqt g3 hT, atI_nat (j := 3) rfl, _, rfl, x, C, dx, _, rfl, upd_same, AC.cl, AC.here, (lt1 (lt1 (lt1 (by decide)))), ?_⟩
    obtain ⟨g4, b4⟩ := step (fs := []) (fs' := putF "here" (.int d.he) (putF "now" (.int 0) (putF "asks" (.ref b) (putF "disk" (.ref a) [])))) g3 b3 rfl
    refine ⟨_, rfl, x, C, dx, _, rfl, upd_same, AC.cl, AC.up, (lt1 (lt1 (lt1 (lt1 (by decide))))), ?_⟩
    obtain ⟨g5, b5⟩ := step (fs := []) (fs' := putF "up" (.bl true) (putF "here" (.int d.he) (putF "now" (.int 0) (putF "asks" (.ref b) (putF "disk" (.ref a) []))))) g4 b4 rfl
    refine ⟨_, rfl, b, xs, rfl, .inl (g5.seq hL), _, rfl, RgOk.of_le (by decide) (by omega) (by decide) (by omega), fun Lf hLf => ?_⟩
    rw [show rgV 0 (xs.length : Int) = (nints (List.range l.length)).map V.int by rw [hlen]; exact rg_nints _]
    have nLx : x ≠ Lf := ne_of_none upd_same hLf
    refine ⟨_, rfl, x, C, dx, _, rfl, by rw [upd_ne nLx]; exact upd_same, AC.cl, AC.left, (lt1 (lt1 (lt1 (lt1 (lt1 (by decide)))))), ?_⟩
    have gL : G Lf = none := g5.free hLf
    refine q _ Lf (sb_upd (sb_trans b5 (sb_of (same_new hLf)))) ⟨nt, same_upd (g5.trans (same_new hLf)) gx, gx, gL, dk, ak, ?_, by rw [upd_ne nLx.symm]; exact upd_same, fun n hn => List.mem_range.mp hn⟩
    exact upd_same.trans (by kernel_rfl)
end

/-! ### rows_by -/
theorem runS_left (d : Disk) (l : List Ask) (r : Rule) (st : ArmS) : ∀ k, k ≤ st.left.length → (runS d l r k st).left.length = st.left.length - k
  | 0, _ => rfl
  | k + 1, h => by
    have ih := runS_left d l r st k (by omega)
    have hne : (runS d l r k st).left ≠ [] := fun e => by rw [e] at ih; simp at ih; omega
    show ((runS d l r k st).left.erase (nextN d l r (runS d l r k st))).length = _
    rw [List.length_erase_of_mem (nextN_mem hne), ih]
    omega
theorem rowsS_len (d : Disk) (l : List Ask) (r : Rule) (st : ArmS) : ∀ k, (rowsS d l r st k).length = k
  | 0 => rfl
  | k + 1 => by
    show (rowsS d l r st k ++ [_]).length = _
    rw [List.length_append, rowsS_len d l r st k]
    rfl
def RowV (G H : Hp) (x : V) (r : Nat × Int) : Prop := ∃ t, x = .ref t ∧ H t = some (.tup [.int (r.1 : Int), .int r.2]) ∧ G t = none
theorem rowV_dp {K : PySem.W.Frag} {G H : Hp} {D : Addr} (hD : ∃ ys, H D = some (.lst ys)) : ∀ {xs : List V} {rs : List (Nat × Int)}, All2 (RowV G H) xs rs → DpAll K (fr G H D) xs (rs.map dRow)
  | [], [], _ => .nil
  | x :: xs, r :: rs, h => by
    obtain ⟨⟨t, rfl, ht, gt⟩, h2⟩ := h
    obtain ⟨ys, hD'⟩ := hD
    exact .cons (dp_tints_of (ns := [(r.1 : Int), r.2]) (SqT.of (fr_at (ne_of ht hD' (by intro q; cases q)) gt ht))) (rowV_dp ⟨ys, hD'⟩ h2)
  | [], _ :: _, h => h.elim
  | _ :: _, [], h => h.elim
theorem ArmH.keepD {K : PySem.W.Frag} {z : ArmP} {d : Disk} {l : List Ask} {G H H' : Hp} {s : ArmS} {D : Addr} (h : ArmH K z d l G H s) (e : ∀ b o, b ≠ D → H b = some o → H' b = some o) (gD : G D = none) (n1 : D ≠ z.p) (n2 : D ≠ z.Lf) : ArmH K z d l G H' s :=
  ⟨h.nt, fun b o k => e b o (ne_of_none k gD) (h.sub b o k), h.gp, h.gL, h.dk, h.ak, e _ _ n1.symm h.ins, e _ _ n2.symm h.lf, h.lt⟩
abbrev s_rows_by : Stmt := top 20
def sp_rows_by (K : PySem.W.Frag) (T : List (Addr × Str)) : Sp := fun vs H Q _ => ∃ (v u : V) (d : Disk) (l : List Ask) (r : Rule), vs = [v, u, .str (ruleS r)] ∧ Dp K H v (dDisk d) ∧ Dp K H u (dAsks l) ∧ GoodDisk d ∧ l.length ≤ 40 ∧ Tabs T H ∧
  ∀ (H' : Hp) (D : Addr) (xs : List V), Same (ntH H) H' → Tabs T H' → ntH H D = none → H' D = some (.lst xs) → DpAll K (fr (ntH H) H' D) xs ((ruledR d l r).map dRow) → Q (.ref D) H'
theorem sc_rows_by : FnScope ["disk", "asks", "rule", "arm", "turn"] ["disk", "asks", "rule"] (defScope s_rows_by) := ⟨rfl, rfl, rfl, by decide +kernel, rfl, by decide +kernel, by decide +kernel⟩
section
variable {P : Program} {w : World} {K : PySem.W.Frag} {mg : Str → Option Value} {base : Heap}
theorem ok_rows_by {f f1 f2 C : Addr} {fd fd1 fd2 : FuncData} {T : List (Addr × Str)} (F : Fun K "rows_by" "rows_by" s_rows_by f fd) (AC : ArmC K C) (MK_Arm : Mk K C f1) (mg_Arm : mg "Arm" = some (.ref C))
    (G_init : FnOk P w K mg base CX0 1 f1 fd1 ["self", "disk", "asks"] (sp_init K)) (b_init : Binds K fd1 ["self", "disk", "asks"] [])
    (G_serve : FnOk P w K mg base CX0 8 f2 fd2 ["self", "rule"] (sp_serve K T)) (M_serve : Mt K C "serve" f2 fd2 ["self", "rule"])
    (mb_range : mg "range" = none) (mb_len : mg "len" = none) : FnOk P w K mg base CX0 9 f fd ["disk", "asks", "rule"] (sp_rows_by K T) := by
  refine F.ok sc_rows_by (fun vs H Q E h => ?_) (fun cdv A outer s H vs Q E hr h => ?_)
  · obtain ⟨v, u, d, l, r, rfl, _⟩ := h
    rfl
  · obtain ⟨v, u, d, l, r, rfl, hd, ha, gd, h40, hT, q⟩ := h
    have nd := sc_rows_by.nd
    have hr_serve : Room 8 _ := hr
    have hr_init : Room 2 _ := hr.mono (by decide)
    obtain ⟨a, rfl, _⟩ := dp_disk hd
    obtain ⟨b, xs, rfl, hL, hlen, _⟩ := dp_asks ha
    refine ⟨_, (pss_cons (ps_set (i := 3) nd rfl (.inr rfl) (pe_make MK_Arm G_init hr_init rfl mg_Arm b_init .nil pass0 (pa_cons (pv 0) (pa_cons (pv 1) pa_nil))))
      (pss_one (ps_ret (pe_lc (own := [("turn", 4)]) (g := (gName 4)) (tt := tYes) rfl nd (pi_range1 rfl mb_range (pa_cons (pe_callB call_len_seq (by rfl) mb_len PySem.boot_len (pa_cons (pv 1) pa_nil)) pa_nil)) (blkOk_by (own := [("turn", 4)]) (N := ["disk", "asks", "rule", "arm", "turn"]) (sc := defScope s_rows_by) (by decide +kernel)) (fun _ _ _ _ _ => (pg_name (i := 4) nd rfl (.inl rfl))) (fun _ _ _ _ _ => pts_nil) (fun _ _ _ _ _ => (pe_meth (pv 3) AC.cl M_serve.m G_serve hr_serve M_serve.b .nil pass0 (pa_cons (pv 2) pa_nil))))))), ?_⟩
    refine ⟨_, rfl, _, rfl, fun x dx hx hdx nxd => ?_⟩
    have gx : ntH H x = none := ntH_none hx
    have gdx : ntH H dx = none := ntH_none hdx
    have s1 : Same H (upd (upd H dx (.own x)) x (.ins C dx [])) := same_upd (same_new hdx) hx
    refine ⟨C, x, dx, a, b, d, l, ntH H, rfl, ntH_nt H, (ntH_sub H).trans s1, gx, dp_nt hd, dp_nt ha, upd_same, AC, h40, fun H1 Lf sb1 hA1 => ⟨rfl, ?_⟩⟩
    have hT1 : Tabs T H1 := tabs_but (hT.ext s1) upd_same (by intro _ q; cases q) (by intro _ q; cases q) sb1
    have hL1 : SqL K H1 b xs := (hA1.sub).seq (by
      rcases hL with (h | ⟨o, h⟩) | h
      · exact .inl (.inl (ntH_some.mpr ⟨h, fun ps q => by cases q⟩))
      · exact .inl (.inr ⟨o, ntH_some.mpr ⟨h, fun ps q => by cases q⟩⟩)
      · exact .inr h)
    refine ⟨_, rfl, b, xs, rfl, .inl hL1, l.length, by rw [hlen], by omega, by omega, fun D hD => ?_⟩
    have s2 := same_new (o := .lst []) hD
    have gD : ntH H D = none := (hA1.sub).free hD
    have hp0 : armS0 d l = runS d l r 0 (armS0 d l) := rfl
    refine lc_range (lo := 0) (n := l.length) (fun i H' => ArmH K ⟨C, x, dx, a, b, Lf⟩ d l (ntH H) H' (runS d l r i (armS0 d l)) ∧ Tabs T H' ∧ ∃ ts : List V, H' D = some (.lst ts) ∧ ts.length = i ∧ All2 (RowV (ntH H) H') ts (rowsS d l r (armS0 d l) i)) ⟨hA1.same s2, hT1.ext s2, [], upd_same, rfl, trivial⟩ ?_ ?_
    · rintro i H2 hi ⟨hA2, hT2, ts, eD, hts, hrows⟩
      have hl : (runS d l r i (armS0 d l)).left.length = l.length - i := by
        have := runS_left d l r (armS0 d l) i (by show i ≤ (List.range l.length).length; rw [List.length_range]; omega)
        rw [this]
        show (List.range l.length).length - i = _
        rw [List.length_range]
      have hne : (runS d l r i (armS0 d l)).left ≠ [] := fun e => by rw [e] at hl; simp at hl; omega
      refine ⟨rfl, _, rfl, x, dx, _, rfl, hA2.ins, rfl, _, rfl, ⟨C, x, dx, a, b, Lf⟩, d, l, ntH H, _, r, rfl, hA2, AC, gd, h40, by omega, hne, hT2, fun H3 t kp hT3 hA3 ht0 ht => ?_⟩
      have nDp : D ≠ x := ne_of eD hA2.ins (by intro q; cases q)
      have nDL : D ≠ Lf := fun e => by
        have h1 := hA1.lf
        rw [show ArmP.Lf ⟨C, x, dx, a, b, Lf⟩ = D from e.symm, hD] at h1
        cases h1
      have eD3 := kp D _ nDp nDL eD (by intro _ q; cases q)
      have ntD : t ≠ D := ne_of ht eD3 (by intro q; cases q)
      have gt : ntH H t = none := by
        cases q : ntH H t with
        | none => rfl
        | some o =>
          obtain ⟨ps, e⟩ := ht0 o (hA2.sub t o q)
          exact absurd (e ▸ q) (ntH_nt H t ps)
      refine ⟨ts, eD3, small1000 (by omega), hA3.keepD (fun b' o n h => by rw [upd_ne n]; exact h) gD nDp nDL, tabs_upd hT3 eD3 (by intro _ q; cases q) (by intro _ q; cases q), ts ++ [.ref t], upd_same, by rw [List.length_append, hts]; rfl, ?_⟩
      refine all2_snoc ⟨t, rfl, by rw [upd_ne ntD]; exact ht, gt⟩ (all2_mono (fun y rr hy => ?_) hrows)
      obtain ⟨t', e, h1, h2⟩ := hy
      have n1 : t' ≠ x := ne_of h1 hA2.ins (by intro q; cases q)
      have n2 : t' ≠ Lf := ne_of h1 hA2.lf (by intro q; cases q)
      have n3 : t' ≠ D := ne_of h1 eD (by intro q; cases q)
      exact ⟨t', e, by rw [upd_ne n3]; exact kp t' _ n1 n2 h1 (by intro _ q; cases q), h2⟩
    · rintro H2 ⟨hA2, hT2, ts, eD, hts, hrows⟩
      exact q H2 D ts hA2.sub hT2 gD eD (rowV_dp ⟨_, eD⟩ hrows)
end
end Ag

namespace Ag
open PySem PySem.Spec PyProof.Rows L2
/-! ### costs_of -/
abbrev s_costs_of : Stmt := top 15
def sp_costs_of (K : PySem.W.Frag) : Sp := fun vs H Q _ => ∃ (v u o : V) (d : Disk) (l : List Ask) (rs : List (Nat × Int)), vs = [v, u, o] ∧ Dp K H v (dDisk d) ∧ Dp K H u (dAsks l) ∧ Dp K H o (.list (rs.map dRow)) ∧ (∀ r ∈ rs, r.1 < l.length) ∧ rs.length ≤ 1000 ∧
  ∀ (H' : Hp) (p : Addr), Same H H' → H p = none → H' p = some (.tup ([(costsOf d l rs).1, (costsOf d l rs).2.1, (costsOf d l rs).2.2].map V.int)) → Q (.ref p) H'
theorem sc_costs_of : FnScope ["disk", "asks", "rows", "way", "here", "waits", "number", "done"] ["disk", "asks", "rows"] (defScope s_costs_of) := ⟨rfl, rfl, rfl, by decide +kernel, rfl, by decide +kernel, by decide +kernel⟩
section
variable {P : Program} {w : World} {K : PySem.W.Frag} {mg : Str → Option Value} {base : Heap}
theorem ok_costs_of {f : Addr} {fd : FuncData} (F : Fun K "costs_of" "costs_of" s_costs_of f fd) (ma : mg "abs" = none) (mm : mg "max" = none) (ms : mg "sum" = none) :
    FnOk P w K mg base CX0 1 f fd ["disk", "asks", "rows"] (sp_costs_of K) := by
  refine F.ok sc_costs_of (fun vs H Q E h => ?_) (fun cdv A outer s H vs Q E hr h => ?_)
  · obtain ⟨v, u, o, d, l, rs, rfl, _⟩ := h
    rfl
  · obtain ⟨v, u, o, d, l, rs, rfl, hd, ha, ho, hin, hlen, q⟩ := h
    obtain ⟨a, rfl, hT⟩ := dp_disk hd
    obtain ⟨b, xs, rfl, hL, hxl, hat⟩ := dp_asks ha
    obtain ⟨c, zs, rfl, hO, hzs⟩ := dp_list ho
    have hzl : zs.length = rs.length := by rw [dpa_len hzs, List.length_map]
    have nd := sc_costs_of.nd
    refine ⟨_, pss_cons (ps_set (i := 3) nd rfl (.inl rfl) pe_int)
      (pss_cons (ps_set (i := 4) nd rfl (.inl rfl) (pe_ix ix_tup (pv 0) pe_int (fun _ _ => rfl)))
      (pss_cons (ps_set (i := 5) nd rfl (.inl rfl) (pe_lst pa_nil))
      (pss_cons (ps_for PassesOwn.never rfl (pi_list (pv 2)) (pg_tup rfl (pgs_cons (pg_name (i := 6) nd rfl (.inl rfl)) (pgs_cons (pg_name (i := 7) nd rfl (.inl rfl)) pgs_nil)))
        (pss_cons (ps_set (i := 3) nd rfl (.inl rfl) (pe_op op_add (pv 3) (pe_callB call_abs (by rfl) ma (by decide +kernel) (pa_cons (pe_op op_sub (pe_ix ix_tup (pe_ix ix_list (pv 1) (pv 6) (fun _ _ => rfl)) pe_int (fun _ _ => rfl)) (pv 4)) pa_nil))))
        (pss_cons (ps_set (i := 4) nd rfl (.inl rfl) (pe_ix ix_tup (pe_ix ix_list (pv 1) (pv 6) (fun _ _ => rfl)) pe_int (fun _ _ => rfl)))
        (pss_one (ps_expr (pe_bm PySem.F.plainAttrs_list PySem.F.slot_list_append PySem.F.type_list_append mt_append (pv 5) (pa_cons (pe_op op_sub (pv 7) (pe_ix ix_tup (pe_ix ix_list (pv 1) (pv 6) (fun _ _ => rfl)) pe_int (fun _ _ => rfl))) pa_nil)))))))
      (pss_one (ps_ret (pe_tup (pa_cons (pv 3) (pa_cons (pe_callBK (cr_maxD0 rfl (hu_of hr)) rfl mm (by decide +kernel) (pa_cons (pv 5) pa_nil) (pk_cons pe_int pk_nil)) (pa_cons (pe_callB (cr_sum rfl) (by rfl) ms (by decide +kernel) (pa_cons (pv 5) pa_nil)) pa_nil))))))))), ?_⟩
    refine ⟨_, rfl, a, _, 3, _, rfl, rfl, hT, atI_nat (j := 3) rfl, Nat.zero_le _, fun W hW => ?_⟩
    have s0 : Same H (upd H W (.lst [])) := same_new hW
    refine ⟨_, rfl, c, rfl, ⟨_, s0.seq hO⟩, for_list (K := K) (a := c) (xs := zs)
      (fun i σ H' => Same H H' ∧ ∃ v6 v7, σ = [some (.ref a), some (.ref b), some (.ref c), some (.int (wayOf l d.he (rs.take i))), some (.int (hereOf l d.he (rs.take i))), some (.ref W), v6, v7] ∧
        H' W = some (.lst ((waitsOf l (rs.take i)).map V.int)))
      ⟨s0, none, none, rfl, upd_same⟩ (fun i σ H' _ ⟨s1, _⟩ => s1.seq hO) ?_ ?_⟩
    · rintro i y σ H' hi ⟨s1, v6, v7, rfl, eW⟩
      have hlt : i < rs.length := by
        have := (List.getElem?_eq_some_iff.mp hi).1
        omega
      obtain ⟨⟨n, z⟩, hn⟩ : ∃ r, rs[i]? = some r := ⟨_, List.getElem?_eq_getElem hlt⟩
      obtain ⟨v, hv, hvd⟩ := dpa_get (i := i) (d := dRow (n, z)) hzs (by rw [List.getElem?_map, hn]; rfl)
      rw [hi] at hv
      cases hv
      obtain ⟨t, rfl, htT⟩ := dp_tints hvd
      obtain ⟨k, hk⟩ : ∃ k, l[n]? = some k := ⟨_, List.getElem?_eq_getElem (hin (n, z) (List.mem_of_getElem? hn))⟩
      obtain ⟨p, hp, hpT, hpd⟩ := hat n k hk
      have ek : l.getD n (0, 0, 0) = k := getD_of hk
      have hix : ∀ {H'' : Hp}, Same H H'' → SqL K H'' b xs := fun s => s.seq hL
      refine ⟨t, _, rfl, same_sqt s1 htT, rfl, _, _, rfl, _, _, rfl, rfl, ?_⟩
      refine ⟨_, rfl, _, rfl, _, rfl, b, xs, (n : Int), .ref p, rfl, rfl, s1.seq hL, atI_nat hp, p, _, 1, _, rfl, rfl, same_sqt s1 hpT, atI_nat (j := 1) rfl, _, rfl, _, _, rfl, rfl, _, rfl, _, _, rfl, rfl, ?_⟩
      refine ⟨_, rfl, _, rfl, b, xs, (n : Int), .ref p, rfl, rfl, s1.seq hL, atI_nat hp, p, _, 1, _, rfl, rfl, same_sqt s1 hpT, atI_nat (j := 1) rfl, ?_⟩
      refine ⟨_, rfl, .inl ⟨rfl, _, SqL.of eW⟩, _, rfl, _, rfl, _, rfl, b, xs, (n : Int), .ref p, rfl, rfl, s1.seq hL, atI_nat hp, p, _, 0, _, rfl, rfl, same_sqt s1 hpT, atI_nat (j := 0) rfl, _, _, rfl, rfl, W, _, _, rfl, rfl, eW, small1000 (by rw [List.length_map]; unfold waitsOf; rw [List.length_map, List.length_take]; omega), ?_⟩
      refine ⟨same_upd s1 hW, some (.int (n : Int)), some (.int z), ?_, ?_⟩
      · rw [take_more hn, wayOf_snoc, hereOf_snoc]
        show _ = [_, _, _, some (V.int (_ + iabs ((l.getD n (0, 0, 0)).2.1 - _))), some (V.int (l.getD n (0, 0, 0)).2.1), _, _, _]
        rw [ek]
        rfl
      · rw [upd_same, take_more hn]
        unfold waitsOf
        rw [List.map_append, List.map_append]
        show _ = some (HO.lst (_ ++ [V.int (z - (l.getD n (0, 0, 0)).1)]))
        rw [ek]
    · rintro σ H' ⟨s1, v6, v7, rfl, eW⟩
      have e : rs.take zs.length = rs := List.take_of_length_le (by omega)
      rw [e] at eW
      rw [e]
      refine ⟨_, rfl, _, rfl, W, _, rfl, rfl, SqL.of eW, _, rfl, W, _, rfl, SqL.of eW, (by show 3 ≤ sizeLine; decide), fun p hp => ?_⟩
      exact q _ p (same_upd s1 (s1.free hp)) (s1.free hp) upd_same
end
/-- a result (rows, costs), all new: a tuple at p of the list at c and the tuple at t -/
structure ResAt (K : PySem.W.Frag) (H H' : Hp) (p c t : Addr) (xs : List V) (rs : List (Nat × Int)) (k : Int × Int × Int) : Prop where
  same : Same H H'
  p0 : H p = none
  c0 : H c = none
  t0 : H t = none
  hp : H' p = some (.tup [.ref c, .ref t])
  hc : H' c = some (.lst xs)
  ht : H' t = some (.tup ([k.1, k.2.1, k.2.2].map V.int))
  rows : DpAll K (fr H H' c) xs (rs.map dRow)
theorem ResAt.dp {K : PySem.W.Frag} {H H' : Hp} {p c t : Addr} {xs : List V} {rs : List (Nat × Int)} {k : Int × Int × Int} (r : ResAt K H H' p c t xs rs k) : Dp K (nw H H') (.ref p) (dRes rs k) :=
  .tup (.inl (.inl (by rw [nw_none r.p0]; exact r.hp))) (.cons (.lst (.inl (.inl (by rw [nw_none r.c0]; exact r.hc))) (dpa_same fr_nw r.rows)) (.cons (dp_tints_of (.inl (.inl (by rw [nw_none r.t0]; exact r.ht)))) .nil))
/-! ### need_rule, by_rule -/
open LamX NdefX
def RLS : List Rule := [.first, .near, .soon, .sweep, .loop]
def rulesV : List V := RLS.map fun r => V.str (ruleS r)
abbrev s_need_rule : Stmt := top 18
def sp_need_rule (K : PySem.W.Frag) : Sp := fun vs H Q _ => ∃ r : Rule, vs = [.str (ruleS r)] ∧ Q .non H
theorem sc_need_rule : FnScope ["rule"] ["rule"] (defScope s_need_rule) := ⟨rfl, rfl, rfl, by decide +kernel, rfl, by decide +kernel, by decide +kernel⟩
abbrev s_by_rule : Stmt := top 21
def sp_by_rule (K : PySem.W.Frag) (T : List (Addr × Str)) : Sp := fun vs H Q _ => ∃ (v u : V) (d : Disk) (l : List Ask) (r : Rule), vs = [v, u, .str (ruleS r)] ∧ Dp K H v (dDisk d) ∧ Dp K H u (dAsks l) ∧ GoodDisk d ∧ GoodAsks d l ∧ Tabs T H ∧
  ∀ (H' : Hp) (p c t : Addr) (xs : List V), Tabs T H' → ResAt K (ntH H) H' p c t xs (ruledR d l r) (costsOf d l (ruledR d l r)) → Q (.ref p) H'
theorem sc_by_rule : FnScope ["disk", "asks", "rule", "rows"] ["disk", "asks", "rule"] (defScope s_by_rule) := ⟨rfl, rfl, rfl, by decide +kernel, rfl, by decide +kernel, by decide +kernel⟩
theorem runS_lt (d : Disk) (l : List Ask) (r : Rule) (st : ArmS) (h : ∀ n ∈ st.left, n < l.length) : ∀ k, ∀ n ∈ (runS d l r k st).left, n < l.length
  | 0 => h
  | k + 1 => fun n hn => runS_lt d l r st h k n (List.mem_of_mem_erase hn)
theorem rowsS_lt (d : Disk) (l : List Ask) (r : Rule) (st : ArmS) (h : ∀ n ∈ st.left, n < l.length) : ∀ k, k ≤ st.left.length → ∀ x ∈ rowsS d l r st k, x.1 < l.length
  | 0, _ => fun x hx => by cases hx
  | k + 1, hk => fun x hx => by
    rcases List.mem_append.mp hx with hx | hx
    · exact rowsS_lt d l r st h k (by omega) x hx
    · rw [List.mem_singleton.mp hx]
      have hl := runS_left d l r st k (by omega)
      have hne : (runS d l r k st).left ≠ [] := fun e => by rw [e] at hl; simp at hl; omega
      exact runS_lt d l r st h k _ (nextN_mem hne)
theorem ruledR_lt (d : Disk) (l : List Ask) (r : Rule) : ∀ x ∈ ruledR d l r, x.1 < l.length := rowsS_lt d l r (armS0 d l) (fun n hn => List.mem_range.mp hn) l.length (by show _ ≤ (List.range l.length).length; rw [List.length_range]; exact Nat.le_refl _)
theorem ruledR_len (d : Disk) (l : List Ask) (r : Rule) : (ruledR d l r).length = l.length := rowsS_len d l r _ _
theorem ntH_idem {H H1 : Hp} (s : Same (ntH H) H1) : Same (ntH H) (ntH H1) := fun b o h => ntH_some.mpr ⟨s b o h, (ntH_some.mp h).2⟩
section
variable {P : Program} {w : World} {K : PySem.W.Frag} {mg : Str → Option Value} {base : Heap}
theorem ok_need_rule {f aR : Addr} {fd : FuncData} (F : Fun K "need_rule" "need_rule" s_need_rule f fd) (mc_RULES : mg "RULES" = some (.ref aR)) (hR : ∀ H, SqT K H aR rulesV) : FnOk P w K mg base CX0 1 f fd ["rule"] (sp_need_rule K) := by
  refine F.ok sc_need_rule (fun vs H Q E h => ?_) (fun cdv A outer s H vs Q E hr h => ?_)
  · obtain ⟨r, rfl, _⟩ := h
    rfl
  · obtain ⟨r, rfl, q⟩ := h
    have nd := sc_need_rule.nd
    refine ⟨_, (pss_one (ps_if (pt_cmpR (r := rIn K true) op_notIn_seq (pv 0) (pe_glob (v := .ref aR) rfl mc_RULES rfl) (by rfl)) (pss_one ps_never) pss_nil)), ?_⟩
    have e : inV (.str (ruleS r)) rulesV = true := by cases r <;> decide +kernel
    refine ⟨_, rfl, aR, rulesV, rfl, .inr (hR H), rfl, by decide +kernel, _, rfl, ?_⟩
    rw [e]
    exact iteF q
theorem ok_by_rule {f f1 f2 f3 f4 f5 : Addr} {fd fd1 fd2 fd3 fd4 fd5 : FuncData} {T : List (Addr × Str)} (F : Fun K "by_rule" "by_rule" s_by_rule f fd)
    (G_need_disk : FnOk P w K mg base CX0 1 f1 fd1 ["disk"] (sp_need_disk K)) (C_need_disk : Cal K mg "need_disk" f1 fd1 ["disk"])
    (G_need_asks : FnOk P w K mg base CX0 1 f2 fd2 ["disk", "asks"] (sp_need_asks K)) (C_need_asks : Cal K mg "need_asks" f2 fd2 ["disk", "asks"])
    (G_need_rule : FnOk P w K mg base CX0 1 f3 fd3 ["rule"] (sp_need_rule K)) (C_need_rule : Cal K mg "need_rule" f3 fd3 ["rule"])
    (G_rows_by : FnOk P w K mg base CX0 9 f4 fd4 ["disk", "asks", "rule"] (sp_rows_by K T)) (C_rows_by : Cal K mg "rows_by" f4 fd4 ["disk", "asks", "rule"])
    (G_costs_of : FnOk P w K mg base CX0 1 f5 fd5 ["disk", "asks", "rows"] (sp_costs_of K)) (C_costs_of : Cal K mg "costs_of" f5 fd5 ["disk", "asks", "rows"]) : FnOk P w K mg base CX0 10 f fd ["disk", "asks", "rule"] (sp_by_rule K T) := by
  refine F.ok sc_by_rule (fun vs H Q E h => ?_) (fun cdv A outer s H vs Q E hr h => ?_)
  · obtain ⟨v, u, d, l, r, rfl, _⟩ := h
    rfl
  · obtain ⟨v, u, d, l, r, rfl, hd, ha, gd, ga, hT, q⟩ := h
    have nd := sc_by_rule.nd
    have hr_need_disk : Room 1 _ := hr.mono (by decide)
    have hr_need_asks : Room 1 _ := hr.mono (by decide)
    have hr_need_rule : Room 1 _ := hr.mono (by decide)
    have hr_rows_by : Room 9 _ := hr
    have hr_costs_of : Room 1 _ := hr.mono (by decide)
    have h40 := ga.len
    refine ⟨_, (pss_cons (ps_expr (pe_call G_need_disk hr_need_disk rfl C_need_disk.m C_need_disk.k C_need_disk.b .nil pass0 (pa_cons (pv 0) pa_nil)))
      (pss_cons (ps_expr (pe_call G_need_asks hr_need_asks rfl C_need_asks.m C_need_asks.k C_need_asks.b .nil pass0 (pa_cons (pv 0) (pa_cons (pv 1) pa_nil))))
      (pss_cons (ps_expr (pe_call G_need_rule hr_need_rule rfl C_need_rule.m C_need_rule.k C_need_rule.b .nil pass0 (pa_cons (pv 2) pa_nil)))
      (pss_cons (ps_set (i := 3) nd rfl (.inl rfl) (pe_call G_rows_by hr_rows_by rfl C_rows_by.m C_rows_by.k C_rows_by.b .nil pass0 (pa_cons (pv 0) (pa_cons (pv 1) (pa_cons (pv 2) pa_nil)))))
      (pss_one (ps_ret (pe_tup (pa_cons (pv 3) (pa_cons (pe_call G_costs_of hr_costs_of rfl C_costs_of.m C_costs_of.k C_costs_of.b .nil pass0 (pa_cons (pv 0) (pa_cons (pv 1) (pa_cons (pv 3) pa_nil)))) pa_nil))))))))), ?_⟩
    refine ⟨_, rfl, v, d, rfl, hd, gd, ?_⟩
    refine ⟨_, rfl, _, rfl, v, u, d, l, rfl, hd, ha, ga, ?_⟩
    refine ⟨_, rfl, r, rfl, ?_⟩
    refine ⟨_, rfl, _, rfl, _, rfl, v, u, d, l, r, rfl, hd, ha, gd, h40, hT, fun H2 c xs s2 hT2 gc hc hrows => ?_⟩
    have hd2 : Dp K H2 v (dDisk d) := dp_same s2 (dp_nt hd)
    have ha2 : Dp K H2 u (dAsks l) := dp_same s2 (dp_nt ha)
    refine ⟨_, rfl, _, rfl, _, rfl, _, rfl, v, u, .ref c, d, l, ruledR d l r, rfl, hd2, ha2, .lst (.inl (.inl hc)) (dpa_same fr_sub hrows), ruledR_lt d l r, by rw [ruledR_len]; omega, fun H3 t s3 ht0 ht => ?_⟩
    refine ⟨(by show 2 ≤ sizeLine; decide), fun p hp => ?_⟩
    have s4 : Same H3 (upd H3 p (.tup [.ref c, .ref t])) := same_new hp
    have s23 := s2.trans s3
    refine q _ p c t xs ((hT2.ext s3).ext s4) ⟨s23.trans s4, s23.free hp, gc, s2.free ht0, upd_same, s4 _ _ (s3 _ _ hc), s4 _ _ ht, ?_⟩
    exact dpa_same (fr_step (sb_of (s3.trans s4))) hrows
end
end Ag

namespace Ag
open PySem PySem.Spec PyProof.Rows L2
/-! ### the rows that a rule serves, as an order -/
theorem wakeNow_eq {l : List Ask} {st : ArmS} (h : st.left ≠ []) : imax st.now (leastI (st.left.map (come l))) = wakeNow l st := by
  have hne : st.left.map (come l) ≠ [] := fun q => h (List.map_eq_nil_iff.mp q)
  obtain ⟨x, r, e⟩ : ∃ x r, st.left.map (come l) = x :: r := by
    cases hl : st.left.map (come l) with
    | nil => exact absurd hl hne
    | cons x r => exact ⟨x, r, rfl⟩
  have hm : leastI (st.left.map (come l)) ∈ st.left.map (come l) := by rw [e]; exact (leastI_go r x).1
  have hle : ∀ y ∈ st.left.map (come l), leastI (st.left.map (come l)) ≤ y := by rw [e]; exact (leastI_go r x).2
  obtain ⟨n, hn, e2⟩ := List.mem_map.mp hm
  unfold wakeNow imax
  by_cases hz : arrived l st.now st.left = []
  · rw [if_pos hz]
    have : ¬ come l n ≤ st.now := fun q => by
      have : n ∈ arrived l st.now st.left := List.mem_filter.mpr ⟨hn, decide_eq_true q⟩
      rw [hz] at this
      cases this
    rw [← e2]
    split <;> omega
  · rw [if_neg hz]
    obtain ⟨m, hm2⟩ := List.exists_mem_of_ne_nil _ hz
    obtain ⟨h1, h2⟩ := List.mem_filter.mp hm2
    have h3 := hle _ (List.mem_map.mpr ⟨m, h1, rfl⟩)
    have h4 := of_decide_eq_true h2
    split <;> omega
theorem wake_serve {d : Disk} {l : List Ask} {st : ArmS} {n : Nat} (h : n ∈ waitN l st) : serve d (wakeNow l st) st.here (l.getD n (0, 0, 0)) = serve d st.now st.here (l.getD n (0, 0, 0)) := by
  obtain ⟨h1, h2⟩ := List.mem_filter.mp h
  have h2 : come l n ≤ wakeNow l st := of_decide_eq_true h2
  have hne : st.left ≠ [] := List.ne_nil_of_mem h1
  have e : imax (wakeNow l st) (l.getD n (0, 0, 0)).1 = imax st.now (l.getD n (0, 0, 0)).1 := by
    have hle : leastI (st.left.map (come l)) ≤ come l n := by
      cases hl : st.left.map (come l) with
      | nil => exact absurd (List.map_eq_nil_iff.mp hl) hne
      | cons x r =>
        have := (leastI_go r x).2 (come l n) (hl ▸ List.mem_map.mpr ⟨n, h1, rfl⟩)
        exact this
    rw [← wakeNow_eq hne] at h2 ⊢
    show imax _ (come l n) = imax _ (come l n)
    unfold imax at h2 ⊢
    split at h2 <;> (repeat' split) <;> omega
  unfold serve
  rw [e]
theorem nextN_wait {d : Disk} {l : List Ask} {r : Rule} {st : ArmS} (h : st.left ≠ []) : nextN d l r st ∈ waitN l st := choseN_mem d l _ _ r (waitN_ne h)
theorem rows_order (d : Disk) (l : List Ask) (r : Rule) (st : ArmS) : ∀ k, k ≤ st.left.length → rowsOf d l st.now st.here ((rowsS d l r st k).map (·.1)) = rowsS d l r st k ∧ endOf d l st.now st.here ((rowsS d l r st k).map (·.1)) = ((runS d l r k st).now, (runS d l r k st).here)
  | 0, _ => ⟨rfl, rfl⟩
  | k + 1, hk => by
    obtain ⟨h1, h2⟩ := rows_order d l r st k (by omega)
    have hl := runS_left d l r st k (by omega)
    have hne : (runS d l r k st).left ≠ [] := fun e => by rw [e] at hl; simp at hl; omega
    have hs := wake_serve (d := d) (nextN_wait (d := d) (l := l) (r := r) hne)
    show rowsOf d l st.now st.here ((rowsS d l r st k ++ [(nextN d l r (runS d l r k st), (nextS d l r (runS d l r k st)).now)]).map (·.1)) = _ ∧ endOf d l st.now st.here ((rowsS d l r st k ++ [(nextN d l r (runS d l r k st), (nextS d l r (runS d l r k st)).now)]).map (·.1)) = _
    rw [List.map_append, List.map_cons, List.map_nil, rowsOf_snoc, endOf_snoc, h1, h2]
    refine ⟨?_, ?_⟩
    · show _ ++ [(_, serve d (runS d l r k st).now (runS d l r k st).here _)] = _ ++ [(_, serve d _ _ _)]
      rw [hs]
    · show (serve d (runS d l r k st).now (runS d l r k st).here _, _) = (serve d _ _ _, _)
      rw [hs]
      rfl
def ordR (d : Disk) (l : List Ask) (r : Rule) : List Nat := (ruledR d l r).map (·.1)
theorem ruled_rows (d : Disk) (l : List Ask) (r : Rule) : rowsOf d l 0 d.he (ordR d l r) = ruledR d l r := (rows_order d l r (armS0 d l) l.length (by show _ ≤ (List.range l.length).length; rw [List.length_range]; exact Nat.le_refl _)).1
theorem ordR_lt (d : Disk) (l : List Ask) (r : Rule) : ∀ i ∈ ordR d l r, i < l.length := fun i hi => by
  obtain ⟨x, hx, rfl⟩ := List.mem_map.mp hi
  exact ruledR_lt d l r x hx
theorem ordR_len (d : Disk) (l : List Ask) (r : Rule) : (ordR d l r).length = l.length := by unfold ordR; rw [List.length_map, ruledR_len]
theorem runS_perm (d : Disk) (l : List Ask) (r : Rule) (st : ArmS) : ∀ k, k ≤ st.left.length → ((rowsS d l r st k).map (·.1) ++ (runS d l r k st).left).Perm st.left
  | 0, _ => List.Perm.refl _
  | k + 1, hk => by
    have ih := runS_perm d l r st k (by omega)
    have hl := runS_left d l r st k (by omega)
    have hne : (runS d l r k st).left ≠ [] := fun e => by rw [e] at hl; simp at hl; omega
    show ((rowsS d l r st k ++ [(nextN d l r (runS d l r k st), (nextS d l r (runS d l r k st)).now)]).map (·.1) ++ (runS d l r k st).left.erase (nextN d l r (runS d l r k st))).Perm _
    rw [List.map_append, List.append_assoc]
    refine (List.Perm.append_left _ ?_).trans ih
    exact (List.perm_cons_erase (nextN_mem (d := d) (l := l) (r := r) hne)).symm
theorem ordR_perm (d : Disk) (l : List Ask) (r : Rule) : (ordR d l r).Perm (List.range l.length) := by
  have hle : l.length ≤ (armS0 d l).left.length := by show _ ≤ (List.range l.length).length; rw [List.length_range]; exact Nat.le_refl _
  have h := runS_perm d l r (armS0 d l) l.length hle
  have hl := runS_left d l r (armS0 d l) l.length hle
  have h0 : (runS d l r l.length (armS0 d l)).left = [] := List.length_eq_zero_iff.mp (by rw [hl]; show (List.range l.length).length - _ = 0; rw [List.length_range]; omega)
  rw [h0, List.append_nil] at h
  exact h
end Ag

namespace Ag
open PySem PySem.Spec PyProof.Rows L2
/-! ### asks later, turned, mirrored: the same choices -/
def sec (l : List Ask) (n : Nat) : Int := (l.getD n (0, 0, 0)).2.2
def mir (d : Disk) (m : Bool) (t : Int) : Int := if m = true then d.tr - 1 - t else t
theorem mir_diff (d : Disk) (m : Bool) (a b : Int) : iabs (mir d m a - mir d m b) = iabs (a - b) := by
  unfold mir iabs
  cases m <;> simp only [Bool.false_eq_true, if_false, if_true] <;> (repeat' split) <;> omega
structure Moved (d d' : Disk) (l l' : List Ask) (L : Int) (m : Bool) : Prop where
  len : l'.length = l.length
  sc : d'.sc = d.sc
  pa : d'.pa = d.pa
  he : d'.he = mir d m d.he
  cm : ∀ n, n < l.length → come l' n = come l n + L
  tk : ∀ n, n < l.length → trk l' n = mir d m (trk l n)
  se : ∀ n, n < l.length → ∃ q, sec l' n = sec l n + L + d.sc * q
theorem moved_serve {d d' : Disk} {l l' : List Ask} {L : Int} {m : Bool} (M : Moved d d' l l' L m) {n : Nat} (hn : n < l.length) (now here : Int) :
    serve d' (now + L) (mir d m here) (l'.getD n (0, 0, 0)) = serve d now here (l.getD n (0, 0, 0)) + L := by
  have h1 : (l'.getD n (0, 0, 0)).1 = (l.getD n (0, 0, 0)).1 + L := M.cm n hn
  have h2 : (l'.getD n (0, 0, 0)).2.1 = mir d m (l.getD n (0, 0, 0)).2.1 := M.tk n hn
  obtain ⟨q, h3⟩ := M.se n hn
  have h3 : (l'.getD n (0, 0, 0)).2.2 = (l.getD n (0, 0, 0)).2.2 + L + d.sc * q := h3
  unfold serve
  rw [h1, h2, h3, mir_diff, M.sc, M.pa]
  have e : imax (now + L) ((l.getD n (0, 0, 0)).1 + L) = imax now (l.getD n (0, 0, 0)).1 + L := by
    unfold imax
    (repeat' split) <;> omega
  rw [e]
  generalize iabs ((l.getD n (0, 0, 0)).2.1 - here) * d.pa = w
  generalize imax now (l.getD n (0, 0, 0)).1 = u
  generalize (l.getD n (0, 0, 0)).2.2 = s
  have e2 : s + L + d.sc * q - (u + L + w) = (s - (u + w)) + d.sc * q := by omega
  rw [e2, Int.add_mul_emod_self_left]
  omega
theorem pick_same {g g' : Nat → List Int} {pool : List Nat} (h : ∀ a ∈ pool, ∀ b ∈ pool, lexL (g' a) (g' b) = lexL (g a) (g b)) : pick g' pool = pick g pool := by
  cases pool with
  | nil => rfl
  | cons x r =>
    show r.foldl _ x = r.foldl _ x
    have key : ∀ (r : List Nat) (x : Nat), (∀ a ∈ x :: r, ∀ b ∈ x :: r, lexL (g' a) (g' b) = lexL (g a) (g b)) → r.foldl (fun a y => if lexL (g' y) (g' a) then y else a) x = r.foldl (fun a y => if lexL (g y) (g a) then y else a) x := by
      intro r
      induction r with
      | nil => intro x _; rfl
      | cons y r ih =>
        intro x h
        rw [List.foldl_cons, List.foldl_cons, h y (List.mem_cons_of_mem _ List.mem_cons_self) x List.mem_cons_self]
        refine ih _ (fun a ha b hb => h a ?_ b ?_)
        · rcases List.mem_cons.mp ha with rfl | ha
          · split
            · exact List.mem_cons_of_mem _ List.mem_cons_self
            · exact List.mem_cons_self
          · exact List.mem_cons_of_mem _ (List.mem_cons_of_mem _ ha)
        · rcases List.mem_cons.mp hb with rfl | hb
          · split
            · exact List.mem_cons_of_mem _ List.mem_cons_self
            · exact List.mem_cons_self
          · exact List.mem_cons_of_mem _ (List.mem_cons_of_mem _ hb)
    exact key r x h
theorem lex3_shift (a b c a' b' c' u v : Int) : lexL [a + u, b + v, c] [a' + u, b' + v, c'] = lexL [a, b, c] [a', b', c'] := by
  unfold lexL
  rw [HT.lexLt_cons, HT.lexLt_cons, HT.lexLt_cons, HT.lexLt_cons, HT.lexLt_cons, HT.lexLt_cons]
  have e1 : (a + u = a' + u) = (a = a') := by apply propext; omega
  have e2 : (b + v = b' + v) = (b = b') := by apply propext; omega
  have e3 : (a + u < a' + u) = (a < a') := by apply propext; omega
  have e4 : (b + v < b' + v) = (b < b') := by apply propext; omega
  simp only [e1, e2, e3, e4]
theorem pick_moved {d d' : Disk} {l l' : List Ask} {L : Int} {m : Bool} (M : Moved d d' l l' L m) {g g' : Nat → Int} {u : Int} {pool : List Nat} (hp : ∀ n ∈ pool, n < l.length)
    (hg : ∀ n ∈ pool, g' n = g n + u) : pick (key3 l' g') pool = pick (key3 l g) pool := by
  refine pick_same (fun a ha b hb => ?_)
  unfold key3
  rw [hg a ha, hg b hb, M.cm a (hp a ha), M.cm b (hp b hb)]
  exact lex3_shift _ _ _ _ _ _ _ _
/-- a rule that may be mirrored -/
def plainR : Rule → Bool
  | .sweep => false
  | .loop => false
  | _ => true
structure Like (d : Disk) (l l' : List Ask) (L : Int) (m : Bool) (st st' : ArmS) : Prop where
  left : st'.left = st.left
  here : st'.here = mir d m st.here
  up : st'.up = st.up
  now : st.left ≠ [] → wakeNow l' st' = wakeNow l st + L
theorem least_map {l l' : List Ask} {L : Int} : ∀ {r : List Nat} {x : Nat}, (∀ n ∈ x :: r, come l' n = come l n + L) → leastI ((x :: r).map (come l')) = leastI ((x :: r).map (come l)) + L := by
  intro r
  have key : ∀ (r : List Nat) (a b : Int), a = b + L → (∀ n ∈ r, come l' n = come l n + L) → (r.map (come l')).foldl (fun a y => if y < a then y else a) a = (r.map (come l)).foldl (fun a y => if y < a then y else a) b + L := by
    intro r
    induction r with
    | nil => intro a b h _; exact h
    | cons y r ih =>
      intro a b h hr
      rw [List.map_cons, List.map_cons, List.foldl_cons, List.foldl_cons]
      refine ih _ _ ?_ (fun n hn => hr n (List.mem_cons_of_mem _ hn))
      rw [hr y List.mem_cons_self, h]
      by_cases hh : come l y < b
      · rw [if_pos hh, if_pos (by omega)]
      · rw [if_neg hh, if_neg (by omega)]
  intro x h
  show (r.map (come l')).foldl _ (come l' x) = (r.map (come l)).foldl _ (come l x) + L
  exact key r _ _ (h x List.mem_cons_self) (fun n hn => h n (List.mem_cons_of_mem _ hn))
theorem wake_moved {d d' : Disk} {l l' : List Ask} {L : Int} {m : Bool} (M : Moved d d' l l' L m) {st st' : ArmS} (hl : st'.left = st.left) (hp : ∀ n ∈ st.left, n < l.length) (hne : st.left ≠ [])
    (h : imax st'.now (leastI (st.left.map (come l)) + L) = imax st.now (leastI (st.left.map (come l))) + L) : wakeNow l' st' = wakeNow l st + L := by
  rw [← wakeNow_eq hne, ← wakeNow_eq (by rw [hl]; exact hne), hl]
  have e : leastI (st.left.map (come l')) = leastI (st.left.map (come l)) + L := by
    cases hs : st.left with
    | nil => exact absurd hs hne
    | cons x r => exact least_map (fun n hn => M.cm n (hp n (hs ▸ hn)))
  rw [e]
  exact h
theorem wait_moved {d d' : Disk} {l l' : List Ask} {L : Int} {m : Bool} (M : Moved d d' l l' L m) {st st' : ArmS} (S : Like d l l' L m st st') (hp : ∀ n ∈ st.left, n < l.length) (hne : st.left ≠ []) : waitN l' st' = waitN l st := by
  unfold waitN arrived
  rw [S.now hne, S.left]
  refine List.filter_congr (fun n hn => ?_)
  rw [M.cm n (hp n hn)]
  exact decide_eq_decide.mpr (by omega)
theorem waitN_in {l : List Ask} {st : ArmS} {n : Nat} (h : n ∈ waitN l st) : n ∈ st.left := (List.mem_filter.mp h).1
theorem next_moved {d d' : Disk} {l l' : List Ask} {L : Int} {m : Bool} (M : Moved d d' l l' L m) {r : Rule} (hr : m = false ∨ plainR r = true) {st st' : ArmS} (S : Like d l l' L m st st') (hp : ∀ n ∈ st.left, n < l.length) (hne : st.left ≠ []) :
    nextN d' l' r st' = nextN d l r st ∧ (choseU l' (wake l' st') (waitN l' st') r = choseU l (wake l st) (waitN l st) r) := by
  have hw := wait_moved M S hp hne
  have hwp : ∀ n ∈ waitN l st, n < l.length := fun n hn => hp n (waitN_in hn)
  unfold nextN
  rw [hw]
  generalize hpool : waitN l st = pool at hwp
  cases r with
  | first =>
    refine ⟨?_, S.up⟩
    show pick (key3 l' fun _ => 0) pool = pick (key3 l fun _ => 0) pool
    exact pick_moved M (u := 0) hwp (fun n hn => rfl)
  | near =>
    refine ⟨?_, S.up⟩
    refine pick_moved M (u := 0) hwp (fun n hn => ?_)
    show iabs (trk l' n - st'.here) = iabs (trk l n - st.here) + 0
    rw [M.tk n (hwp n hn), S.here, mir_diff, Int.add_zero]
  | soon =>
    refine ⟨?_, S.up⟩
    refine pick_moved M (u := L) hwp (fun n hn => ?_)
    show serve d' (wakeNow l' st') st'.here _ = serve d (wakeNow l st) st.here _ + L
    rw [S.now hne, S.here, moved_serve M (hwp n hn)]
  | sweep =>
    rcases hr with rfl | hr
    · have ht : ∀ n ∈ pool, trk l' n = trk l n := fun n hn => M.tk n (hwp n hn)
      have hh : st'.here = st.here := S.here
      have ha : aheadU l' (wake l' st') pool = aheadU l (wake l st) pool := by
        unfold aheadU
        refine List.filter_congr (fun n hn => ?_)
        show decide (0 ≤ (trk l' n - st'.here) * (2 * b1 st'.up - 1)) = decide (0 ≤ (trk l n - st.here) * (2 * b1 st.up - 1))
        rw [ht n hn, hh, S.up]
      refine ⟨?_, ?_⟩
      · show sweptN l' (wake l' st') pool = sweptN l (wake l st) pool
        unfold sweptN
        rw [ha]
        have hsub : ∀ n ∈ (if aheadU l (wake l st) pool = [] then pool else aheadU l (wake l st) pool), n ∈ pool := fun n hn => by
          split at hn
          · exact hn
          · exact (List.mem_filter.mp hn).1
        refine pick_moved M (u := 0) (fun n hn => hwp n (hsub n hn)) (fun n hn => ?_)
        show iabs (trk l' n - st'.here) = iabs (trk l n - st.here) + 0
        rw [ht n (hsub n hn), hh, Int.add_zero]
      · show sweptU l' (wake l' st') pool = sweptU l (wake l st) pool
        unfold sweptU
        rw [ha]
        show (if _ then !st'.up else st'.up) = (if _ then !st.up else st.up)
        rw [S.up]
    · cases hr
  | loop =>
    rcases hr with rfl | hr
    · have ht : ∀ n ∈ pool, trk l' n = trk l n := fun n hn => M.tk n (hwp n hn)
      have hh : st'.here = st.here := S.here
      have ha : aheadL l' (wake l' st') pool = aheadL l (wake l st) pool := by
        unfold aheadL
        refine List.filter_congr (fun n hn => ?_)
        show decide (0 ≤ trk l' n - st'.here) = decide (0 ≤ trk l n - st.here)
        rw [ht n hn, hh]
      refine ⟨?_, S.up⟩
      show loopedN l' (wake l' st') pool = loopedN l (wake l st) pool
      unfold loopedN
      rw [ha]
      have hsub : ∀ n ∈ (if aheadL l (wake l st) pool = [] then pool else aheadL l (wake l st) pool), n ∈ pool := fun n hn => by
        split at hn
        · exact hn
        · exact (List.mem_filter.mp hn).1
      refine pick_moved M (u := 0) (fun n hn => hwp n (hsub n hn)) (fun n hn => ?_)
      show trk l' n = trk l n + 0
      rw [ht n (hsub n hn), Int.add_zero]
    · cases hr
theorem step_moved {d d' : Disk} {l l' : List Ask} {L : Int} {m : Bool} (M : Moved d d' l l' L m) {r : Rule} (hr : m = false ∨ plainR r = true) {st st' : ArmS} (S : Like d l l' L m st st') (hp : ∀ n ∈ st.left, n < l.length) (hne : st.left ≠ []) :
    (nextS d' l' r st').now = (nextS d l r st).now + L ∧ Like d l l' L m (nextS d l r st) (nextS d' l' r st') := by
  obtain ⟨h1, h2⟩ := next_moved M hr S hp hne
  have hn : nextN d l r st < l.length := hp _ (waitN_in (nextN_wait hne))
  have e : (nextS d' l' r st').now = (nextS d l r st).now + L := by
    show serve d' (wakeNow l' st') st'.here (l'.getD (nextN d' l' r st') (0, 0, 0)) = serve d (wakeNow l st) st.here (l.getD (nextN d l r st) (0, 0, 0)) + L
    rw [h1, S.now hne, S.here, moved_serve M hn]
  have el : (nextS d' l' r st').left = (nextS d l r st).left := by
    show st'.left.erase (nextN d' l' r st') = st.left.erase (nextN d l r st)
    rw [h1, S.left]
  refine ⟨e, el, ?_, h2, fun hz => wake_moved M el (fun n hn => hp n (List.mem_of_mem_erase hn)) hz ?_⟩
  · show trk l' (nextN d' l' r st') = mir d m (trk l (nextN d l r st))
    rw [h1, M.tk _ hn]
  · rw [e]
    unfold imax
    (repeat' split) <;> omega
theorem run_moved {d d' : Disk} {l l' : List Ask} {L : Int} {m : Bool} (M : Moved d d' l l' L m) {r : Rule} (hr : m = false ∨ plainR r = true) {st st' : ArmS} (S : Like d l l' L m st st') (hp : ∀ n ∈ st.left, n < l.length) :
    ∀ k, k ≤ st.left.length → Like d l l' L m (runS d l r k st) (runS d' l' r k st') ∧ (∀ n ∈ (runS d l r k st).left, n < l.length) ∧ rowsS d' l' r st' k = (rowsS d l r st k).map (fun x => (x.1, x.2 + L))
  | 0, _ => ⟨S, hp, rfl⟩
  | k + 1, hk => by
    obtain ⟨h1, h2, h3⟩ := run_moved M hr S hp k (by omega)
    have hl := runS_left d l r st k (by omega)
    have hne : (runS d l r k st).left ≠ [] := fun e => by rw [e] at hl; simp at hl; omega
    obtain ⟨e1, e2⟩ := step_moved M hr h1 h2 hne
    obtain ⟨e3, _⟩ := next_moved M hr h1 h2 hne
    refine ⟨e2, fun n hn => h2 n (List.mem_of_mem_erase hn), ?_⟩
    show rowsS d' l' r st' k ++ [(nextN d' l' r (runS d' l' r k st'), (nextS d' l' r (runS d' l' r k st')).now)] = (rowsS d l r st k ++ [(nextN d l r (runS d l r k st), (nextS d l r (runS d l r k st)).now)]).map _
    rw [List.map_append, h3, e3, e1]
    rfl
theorem ruled_moved {d d' : Disk} {l l' : List Ask} {L : Int} {m : Bool} (M : Moved d d' l l' L m) {r : Rule} (hr : m = false ∨ plainR r = true) (hL : 0 ≤ L) (hc : ∀ n, n < l.length → 0 ≤ come l n) :
    ruledR d' l' r = (ruledR d l r).map (fun x => (x.1, x.2 + L)) := by
  have hlen : (armS0 d l).left.length = l.length := by show (List.range l.length).length = _; rw [List.length_range]
  have hp : ∀ n ∈ (armS0 d l).left, n < l.length := fun n hn => List.mem_range.mp hn
  have hleft : (armS0 d' l').left = (armS0 d l).left := by show List.range _ = List.range _; rw [M.len]
  have S : Like d l l' L m (armS0 d l) (armS0 d' l') := by
    refine ⟨hleft, M.he, rfl, fun hne => wake_moved M hleft hp hne ?_⟩
    have h0 : 0 ≤ leastI ((armS0 d l).left.map (come l)) := by
      cases hs : (armS0 d l).left with
      | nil => exact absurd hs hne
      | cons x r =>
        have h1 := (leastI_go (r.map (come l)) (come l x)).1
        have h2 : leastI ((x :: r).map (come l)) ∈ (x :: r).map (come l) := h1
        obtain ⟨n, hn, e⟩ := List.mem_map.mp h2
        rw [← e]
        exact hc n (hp n (hs ▸ hn))
    show imax 0 _ = imax 0 _ + L
    unfold imax
    (repeat' split) <;> omega
  have h := (run_moved M hr S hp l.length (by rw [hlen]; exact Nat.le_refl _)).2.2
  unfold ruledR
  rw [M.len]
  exact h
theorem way_moved {d d' : Disk} {l l' : List Ask} {L : Int} {m : Bool} (M : Moved d d' l l' L m) : ∀ (rs : List (Nat × Int)) (here : Int), (∀ x ∈ rs, x.1 < l.length) → wayOf l' (mir d m here) (rs.map (fun x => (x.1, x.2 + L))) = wayOf l here rs
  | [], _, _ => rfl
  | x :: rs, here, h => by
    have ht : (l'.getD x.1 (0, 0, 0)).2.1 = mir d m (l.getD x.1 (0, 0, 0)).2.1 := M.tk x.1 (h x List.mem_cons_self)
    show iabs ((l'.getD x.1 (0, 0, 0)).2.1 - mir d m here) + wayOf l' (l'.getD x.1 (0, 0, 0)).2.1 (rs.map _) = iabs ((l.getD x.1 (0, 0, 0)).2.1 - here) + wayOf l (l.getD x.1 (0, 0, 0)).2.1 rs
    rw [ht, mir_diff, way_moved M rs _ (fun y hy => h y (List.mem_cons_of_mem _ hy))]
theorem costs_moved {d d' : Disk} {l l' : List Ask} {L : Int} {m : Bool} (M : Moved d d' l l' L m) {rs : List (Nat × Int)} (h : ∀ x ∈ rs, x.1 < l.length) : costsOf d' l' (rs.map (fun x => (x.1, x.2 + L))) = costsOf d l rs := by
  have hw : waitsOf l' (rs.map (fun x => (x.1, x.2 + L))) = waitsOf l rs := by
    unfold waitsOf
    rw [List.map_map]
    refine List.map_congr_left (fun x hx => ?_)
    show x.2 + L - (l'.getD x.1 (0, 0, 0)).1 = x.2 - (l.getD x.1 (0, 0, 0)).1
    have : (l'.getD x.1 (0, 0, 0)).1 = (l.getD x.1 (0, 0, 0)).1 + L := M.cm x.1 (h x hx)
    omega
  unfold costsOf
  rw [hw, M.he, way_moved M rs _ h]
/-- the law's moved asks -/
def movedA (d : Disk) (later more : Int) (turned : Bool) (l : List Ask) : List Ask := l.map fun a => (a.1 + later, (if turned = true then d.tr - 1 - a.2.1 else a.2.1), (a.2.2 + more) % d.sc)
theorem moved_of {d d' : Disk} {l : List Ask} {L M : Int} {m : Bool} (hs : d'.sc = d.sc) (hp : d'.pa = d.pa) (hh : d'.he = mir d m d.he) (hq : ∃ k, L = M + d.sc * k) : Moved d d' l (movedA d L M m l) L m := by
  have hget : ∀ n, n < l.length → (movedA d L M m l).getD n (0, 0, 0) = ((l.getD n (0, 0, 0)).1 + L, (if m = true then d.tr - 1 - (l.getD n (0, 0, 0)).2.1 else (l.getD n (0, 0, 0)).2.1), ((l.getD n (0, 0, 0)).2.2 + M) % d.sc) := fun n hn => by
    have e : l[n]? = some l[n] := List.getElem?_eq_getElem hn
    rw [getD_of e]
    refine getD_of ?_
    unfold movedA
    rw [List.getElem?_map, e]
    rfl
  refine ⟨by unfold movedA; rw [List.length_map], hs, hp, hh, fun n hn => ?_, fun n hn => ?_, fun n hn => ?_⟩
  · unfold come
    rw [hget n hn]
  · unfold trk
    rw [hget n hn]
    rfl
  · obtain ⟨k, hk⟩ := hq
    unfold sec
    rw [hget n hn]
    show ∃ q, (_ + M) % d.sc = _
    generalize (l.getD n (0, 0, 0)).2.2 = s
    refine ⟨-((s + M) / d.sc) - k, ?_⟩
    have := Int.mul_ediv_add_emod (s + M) d.sc
    rw [Int.mul_sub, Int.mul_neg]
    omega
theorem movedA_good {d d' : Disk} (g : GoodDisk d) {l : List Ask} (ga : GoodAsks d l) {L M : Int} {m : Bool} (hL : 0 ≤ L) (hc : ∀ a ∈ l, a.1 + L ≤ 999) (ht : d'.tr = d.tr) (hs : d'.sc = d.sc) : GoodAsks d' (movedA d L M m l) := by
  refine ⟨by unfold movedA; rw [List.length_map]; exact ga.len, fun a ha => ?_⟩
  obtain ⟨b, hb, rfl⟩ := List.mem_map.mp ha
  have G := ga.all b hb
  have h1 := hc b hb
  have := G.c1
  have := G.t1
  have := G.t2
  have hs1 := g.s1
  refine ⟨?_, h1, ?_, ?_, ?_, ?_⟩
  · show 0 ≤ b.1 + L
    omega
  · show 0 ≤ (if m = true then d.tr - 1 - b.2.1 else b.2.1)
    split <;> omega
  · show (if m = true then d.tr - 1 - b.2.1 else b.2.1) < d'.tr
    rw [ht]
    split <;> omega
  · exact Int.emod_nonneg _ (by omega)
  · show (b.2.2 + M) % d.sc < d'.sc
    rw [hs]
    exact Int.emod_lt_of_pos _ (by omega)
end Ag

namespace Ag
open PySem PySem.Spec PyProof.Rows L2
/-! ### the law's draws: any number in range -/
abbrev s_l_taken : Stmt := top 23
def sp_l_taken (K : PySem.W.Frag) : Sp := fun vs H Q _ => ∃ (r : Addr) (many : Int), vs = [.ref r, .int many] ∧ RowAt K H r ∧ 0 < many ∧ ∀ (H' : Hp) (v : Int), 0 ≤ v → v < many → RowAt K H' r → SameBut r H H' → Q (.int v) H'
theorem sc_l_taken : FnScope ["_law_row", "_law_many", "_law_cell"] ["_law_row", "_law_many"] (defScope s_l_taken) := ⟨rfl, rfl, rfl, by decide +kernel, rfl, by decide +kernel, by decide +kernel⟩
section
variable {P : Program} {w : World} {K : PySem.W.Frag} {mg : Str → Option Value} {base : Heap}
theorem ok_l_taken {f : Addr} {fd : FuncData} (F : Fun K "_law_taken" "_law_taken" s_l_taken f fd) (ml : mg "len" = none) : FnOk P w K mg base CX0 1 f fd ["_law_row", "_law_many"] (sp_l_taken K) := by
  refine F.ok sc_l_taken (fun vs H Q E h => ?_) (fun cdv A outer s H vs Q E hr h => ?_)
  · obtain ⟨r, many, rfl, _⟩ := h
    rfl
  · obtain ⟨r, many, rfl, ⟨a, ns, pos, mix, p0, hR, hS⟩, hm, q⟩ := h
    have nd := sc_l_taken.nd
    refine ⟨_, pss_cons (ps_asg (pe_op op_add (pe_ix ix_list (pv 0) pe_int (fun _ _ => rfl)) pe_int) (pg_sub (pv 0) pe_int set_list))
      (pss_cons (ps_if (pt_cmpR op_gt (pe_ix ix_list (pv 0) pe_int (fun _ _ => rfl)) (pe_callB call_len_seq (by rfl) ml PySem.boot_len (pa_cons (pe_ix ix_list (pv 0) pe_int (fun _ _ => rfl)) pa_nil)) (nomark _))
        (pss_cons (ps_asg (pe_op op_mod (pe_op op_add (pe_op op_mul (pe_ix ix_list (pv 0) pe_int (fun _ _ => rfl)) pe_int) pe_int) pe_int) (pg_sub (pv 0) pe_int set_list))
          (pss_one (ps_ret (pe_op op_mod (pe_op op_fdiv (pe_ix ix_list (pv 0) pe_int (fun _ _ => rfl)) pe_int) (pv 1))))) pss_nil)
      (pss_cons (ps_set (i := 2) nd rfl (.inl rfl) (pe_ix ix_list (pe_ix ix_list (pv 0) pe_int (fun _ _ => rfl)) (pe_op op_sub (pe_ix ix_list (pv 0) pe_int (fun _ _ => rfl)) pe_int) (fun _ _ => rfl)))
      (pss_cons (ps_asg (pe_op op_mod (pe_op op_add (pe_op op_add (pe_op op_mul (pe_ix ix_list (pv 0) pe_int (fun _ _ => rfl)) pe_int) (pv 2)) pe_int) pe_int) (pg_sub (pv 0) pe_int set_list))
      (pss_one (ps_ret (pe_op op_mod (pv 2) (pv 1))))))), ?_⟩
    refine ⟨_, rfl, r, _, 1, _, rfl, rfl, SqL.of hR, atI_nat (j := 1) rfl, _, _, rfl, rfl, _, rfl, r, _, _, 1, rfl, rfl, hR, rfl, ?_⟩
    have h1 : upd H r (.lst ([V.ref a, .int pos, .int mix].set 1 (.int (pos + 1)))) r = some (.lst [V.ref a, .int (pos + 1), .int mix]) := upd_same
    have hS1 : ScrAt K (upd H r (.lst ([V.ref a, .int pos, .int mix].set 1 (.int (pos + 1))))) a ns := hS.put hR
    have b1 : SameBut r H (upd H r (.lst ([V.ref a, .int pos, .int mix].set 1 (.int (pos + 1))))) := sb_upd sb_refl
    revert h1 hS1 b1
    generalize upd H r (.lst ([V.ref a, .int pos, .int mix].set 1 (.int (pos + 1)))) = H1
    intro h1 hS1 b1
    refine ⟨_, rfl, r, _, 1, _, rfl, rfl, SqL.of h1, atI_nat (j := 1) rfl, _, rfl, r, _, 0, _, rfl, rfl, SqL.of h1, atI_nat (j := 0) rfl, a, _, rfl, .inl hS1.sql, _, _, rfl, rfl, _, rfl, if2d (fun _ => ?_) (fun hle => ?_)⟩
    · refine ⟨_, rfl, r, _, 2, _, rfl, rfl, SqL.of h1, atI_nat (j := 2) rfl, _, _, rfl, rfl, .inr ⟨by decide, by decide⟩, _, _, rfl, rfl, _, _, rfl, rfl, (by show (0 : Int) < 2147483647; decide), _, rfl, r, _, _, 2, rfl, rfl, h1, rfl, ?_⟩
      refine ⟨_, rfl, r, [V.ref a, .int (pos + 1), .int ((mix * 48271 + 11) % 2147483647)], 2, _, rfl, rfl, .inl (.inl upd_same), atI_nat (j := 2) rfl, _, _, rfl, rfl, ⟨by decide, by decide⟩, _, rfl, _, _, rfl, rfl, hm, ?_⟩
      refine q _ _ (Int.emod_nonneg _ (by omega)) (Int.emod_lt_of_pos _ hm) ⟨a, ns, pos + 1, _, by omega, upd_same, hS1.put h1⟩ (sb_upd b1)
    · rw [List.length_map] at hle
      have hlt : pos.toNat < ns.length := by omega
      obtain ⟨z, hz⟩ : ∃ z, ns[pos.toNat]? = some z := ⟨_, List.getElem?_eq_getElem hlt⟩
      refine ⟨_, rfl, r, _, 0, _, rfl, rfl, SqL.of h1, atI_nat (j := 0) rfl, _, rfl, r, _, 1, _, rfl, rfl, SqL.of h1, atI_nat (j := 1) rfl, _, _, rfl, rfl, a, _, _, .int z, rfl, rfl, hS1.sql, at_of (j := pos.toNat) (by omega) (by rw [List.getElem?_map, hz]; rfl), ?_⟩
      refine ⟨_, rfl, r, _, 2, _, rfl, rfl, SqL.of h1, atI_nat (j := 2) rfl, _, _, rfl, rfl, .inr ⟨by decide, by decide⟩, _, rfl, _, _, rfl, rfl, _, _, rfl, rfl, _, _, rfl, rfl, (by show (0 : Int) < 2147483647; decide), _, rfl, r, _, _, 2, rfl, rfl, h1, rfl, ?_⟩
      refine ⟨_, rfl, _, rfl, _, _, rfl, rfl, hm, ?_⟩
      refine q _ _ (Int.emod_nonneg _ (by omega)) (Int.emod_lt_of_pos _ hm) ⟨a, ns, pos + 1, _, by omega, upd_same, hS1.put h1⟩ (sb_upd b1)
end
/-! ### the law's disks: any good one -/
abbrev s_l_disk : Stmt := top 24
def sp_l_disk (K : PySem.W.Frag) : Sp := fun vs H Q _ => ∃ (r : Addr), vs = [.ref r] ∧ RowAt K H r ∧ ∀ (H' : Hp) (p : Addr) (d : Disk), GoodDisk d → RowAt K H' r → SameBut r H H' → p ≠ r → H' p = some (.tup ([d.tr, d.sc, d.pa, d.he].map V.int)) → Q (.ref p) H'
theorem sc_l_disk : FnScope ["_law_row", "_law_tracks", "_law_sectors"] ["_law_row"] (defScope s_l_disk) := ⟨rfl, rfl, rfl, by decide +kernel, rfl, by decide +kernel, by decide +kernel⟩
theorem row_keep {K : PySem.W.Frag} {H H' : Hp} {r p : Addr} {o : HO} (h : RowAt K H r) (e : H p = some o) (n : p ≠ r) (s : SameBut r H H') : H' p = some o := s _ _ n e
section
variable {P : Program} {w : World} {K : PySem.W.Frag} {mg : Str → Option Value} {base : Heap}
theorem ok_l_disk {f fT : Addr} {fd fdT : FuncData} (F : Fun K "_law_disk" "_law_disk" s_l_disk f fd) (GT : FnOk P w K mg base CX0 1 fT fdT ["_law_row", "_law_many"] (sp_l_taken K)) (gT : mg "_law_taken" = some (.ref fT)) (kT : PySem.W.keepIn K (.ref fT) = true) (bT : Binds K fdT ["_law_row", "_law_many"] []) :
    FnOk P w K mg base CX0 2 f fd ["_law_row"] (sp_l_disk K) := by
  refine F.ok sc_l_disk (fun vs H Q E h => ?_) (fun cdv A outer s H vs Q E hr h => ?_)
  · obtain ⟨r, rfl, _⟩ := h
    rfl
  · obtain ⟨r, rfl, hR, q⟩ := h
    have nd := sc_l_disk.nd
    have hr1 : Room 1 _ := hr
    refine ⟨_, pss_cons (ps_set (i := 1) nd rfl (.inl rfl) (pe_op op_add pe_int (pe_call GT hr1 rfl gT kT bT .nil pass0 (pa_cons (pv 0) (pa_cons (pe_ix ix_list (pe_lst (pa_cons pe_int (pa_cons pe_int pa_nil))) (pe_call GT hr1 rfl gT kT bT .nil pass0 (pa_cons (pv 0) (pa_cons pe_int pa_nil))) (fun _ _ => rfl)) pa_nil)))))
      (pss_cons (ps_set (i := 2) nd rfl (.inl rfl) (pe_op op_add pe_int (pe_call GT hr1 rfl gT kT bT .nil pass0 (pa_cons (pv 0) (pa_cons (pe_ix ix_list (pe_lst (pa_cons pe_int (pa_cons pe_int pa_nil))) (pe_call GT hr1 rfl gT kT bT .nil pass0 (pa_cons (pv 0) (pa_cons pe_int pa_nil))) (fun _ _ => rfl)) pa_nil)))))
      (pss_one (ps_ret (pe_tup (pa_cons (pv 1) (pa_cons (pv 2) (pa_cons (pe_op op_add pe_int (pe_call GT hr1 rfl gT kT bT .nil pass0 (pa_cons (pv 0) (pa_cons pe_int pa_nil)))) (pa_cons (pe_call GT hr1 rfl gT kT bT .nil pass0 (pa_cons (pv 0) (pa_cons (pv 1) pa_nil))) pa_nil)))))))), ?_⟩
    refine ⟨_, rfl, (by show 2 ≤ sizeLine; decide), fun L hL => ?_⟩
    have nL := hR.ne hL
    refine ⟨_, rfl, r, 2, rfl, hR.but (same_new hL), by decide, fun H1 v v0 v1 hR1 s1 => ?_⟩
    have eL : H1 L = some (.lst [.int 8, .int 64]) := s1 _ _ nL upd_same
    have sb1 : SameBut r H H1 := sb_trans (sb_of (same_new hL)) s1
    obtain ⟨k, hk, k8⟩ : ∃ k : Int, atI [V.int 8, .int 64] v = some (.int k) ∧ (1 ≤ k ∧ k ≤ 64) := by
      rcases (by omega : v = 0 ∨ v = 1) with rfl | rfl
      · exact ⟨8, rfl, by decide⟩
      · exact ⟨64, rfl, by decide⟩
    refine ⟨L, _, v, _, rfl, rfl, SqL.of eL, hk, r, k, rfl, hR1, by omega, fun H2 v2 v20 v21 hR2 s2 => ?_⟩
    have sb2 := sb_trans sb1 s2
    refine ⟨_, _, rfl, rfl, ?_⟩
    refine ⟨_, rfl, (by show 2 ≤ sizeLine; decide), fun L2 hL2 => ?_⟩
    have nL2 := hR2.ne hL2
    refine ⟨_, rfl, r, 2, rfl, hR2.but (same_new hL2), by decide, fun H3 v3 v30 v31 hR3 s3 => ?_⟩
    have eL2 : H3 L2 = some (.lst [.int 4, .int 16]) := s3 _ _ nL2 upd_same
    have sb3 : SameBut r H H3 := sb_trans sb2 (sb_trans (sb_of (same_new hL2)) s3)
    obtain ⟨k2, hk2, k28⟩ : ∃ k : Int, atI [V.int 4, .int 16] v3 = some (.int k) ∧ (1 ≤ k ∧ k ≤ 16) := by
      rcases (by omega : v3 = 0 ∨ v3 = 1) with rfl | rfl
      · exact ⟨4, rfl, by decide⟩
      · exact ⟨16, rfl, by decide⟩
    refine ⟨L2, _, v3, _, rfl, rfl, SqL.of eL2, hk2, r, k2, rfl, hR3, by omega, fun H4 v4 v40 v41 hR4 s4 => ?_⟩
    have sb4 := sb_trans sb3 s4
    refine ⟨_, _, rfl, rfl, ?_⟩
    refine ⟨_, rfl, _, rfl, _, rfl, r, 4, rfl, hR4, by decide, fun H5 v5 v50 v51 hR5 s5 => ?_⟩
    refine ⟨_, _, rfl, rfl, _, rfl, _, rfl, r, 1 + v2, rfl, hR5, by omega, fun H6 v6 v60 v61 hR6 s6 => ?_⟩
    refine ⟨(by show 4 ≤ sizeLine; decide), fun p hp => ?_⟩
    have sb6 := sb_trans sb4 (sb_trans s5 s6)
    exact q _ p ⟨1 + v2, 1 + v4, 1 + v5, v6⟩ ⟨by show 1 ≤ 1 + v2; omega, by show 1 + v2 ≤ 64; omega, by show 1 ≤ 1 + v4; omega, by show 1 + v4 ≤ 16; omega, by show 1 ≤ 1 + v5; omega, by show 1 + v5 ≤ 4; omega, v60, v61⟩
      (hR6.but (same_new hp)) (sb_new sb6 hp) (hR6.ne hp) upd_same
end
/-! ### the law's asks: any good ones, no more than it says -/
abbrev s_l_asks : Stmt := top 25
def sp_l_asks (K : PySem.W.Frag) : Sp := fun vs H Q _ => ∃ (r : Addr) (v : V) (d : Disk) (most : Int), vs = [.ref r, v, .int most] ∧ RowAt K H r ∧ Dp K (wo H r) v (dDisk d) ∧ GoodDisk d ∧ 0 ≤ most ∧ most ≤ 40 ∧
  ∀ (H' : Hp) (p : Addr) (l : List Ask) (xs : List V), GoodAsks d l → (l.length : Int) ≤ most → RowAt K H' r → SameBut r H H' → p ≠ r → H p = none → H' p = some (.lst xs) → DpAll K (wo (wo H' r) p) xs (l.map dAsk) → Q (.ref p) H'
theorem sc_l_asks : FnScope ["_law_row", "_law_disk_here", "_law_most", "_law_often", "_law_few", "_law_found", "_law_k"] ["_law_row", "_law_disk_here", "_law_most"] (defScope s_l_asks) := ⟨rfl, rfl, rfl, by decide +kernel, rfl, by decide +kernel, by decide +kernel⟩
section
variable {P : Program} {w : World} {K : PySem.W.Frag} {mg : Str → Option Value} {base : Heap}
theorem ok_l_asks {f fT : Addr} {fd fdT : FuncData} (F : Fun K "_law_asks" "_law_asks" s_l_asks f fd) (GT : FnOk P w K mg base CX0 1 fT fdT ["_law_row", "_law_many"] (sp_l_taken K)) (gT : mg "_law_taken" = some (.ref fT)) (kT : PySem.W.keepIn K (.ref fT) = true) (bT : Binds K fdT ["_law_row", "_law_many"] [])
    (mm : mg "min" = none) (mr : mg "range" = none) : FnOk P w K mg base CX0 2 f fd ["_law_row", "_law_disk_here", "_law_most"] (sp_l_asks K) := by
  refine F.ok sc_l_asks (fun vs H Q E h => ?_) (fun cdv A outer s H vs Q E hr h => ?_)
  · obtain ⟨r, v, d, most, rfl, _⟩ := h
    rfl
  · obtain ⟨r, v, d, most, rfl, hR, hd, g, m0, m40, q⟩ := h
    obtain ⟨a, rfl, hT⟩ := dp_disk hd
    have nd := sc_l_asks.nd
    have hr1 : Room 1 _ := hr
    have hTB : ∀ {H' : Hp}, SameBut r H H' → SqT K H' a [.int d.tr, .int d.sc, .int d.pa, .int d.he] := fun s => same_sqt wo_sub (same_sqt (sb_wo s) hT)
    refine ⟨_, pss_cons (ps_set (i := 3) nd rfl (.inl rfl) (pe_ix ix_list (pe_lst (pa_cons pe_int (pa_cons pe_int (pa_cons pe_int (pa_cons pe_int pa_nil))))) (pe_call GT hr1 rfl gT kT bT .nil pass0 (pa_cons (pv 0) (pa_cons pe_int pa_nil))) (fun _ _ => rfl)))
      (pss_cons (ps_set (i := 4) nd rfl (.inl rfl) (pe_ix ix_list (pe_lst (pa_cons (pe_ix ix_tup (pv 1) pe_int (fun _ _ => rfl)) (pa_cons (pe_callB (call_min2 rfl) (by rfl) mm (by decide +kernel) (pa_cons (pe_ix ix_tup (pv 1) pe_int (fun _ _ => rfl)) (pa_cons pe_int pa_nil))) pa_nil))) (pe_call GT hr1 rfl gT kT bT .nil pass0 (pa_cons (pv 0) (pa_cons pe_int pa_nil))) (fun _ _ => rfl)))
      (pss_cons (ps_set (i := 5) nd rfl (.inl rfl) (pe_lst pa_nil))
      (pss_cons (ps_for PassesOwn.never rfl (pi_range1 rfl mr (pa_cons (pe_call GT hr1 rfl gT kT bT .nil pass0 (pa_cons (pv 0) (pa_cons (pe_op op_add (pv 2) pe_int) pa_nil))) pa_nil)) (pg_name (i := 6) nd rfl (.inl rfl))
        (pss_one (ps_expr (pe_bm PySem.F.plainAttrs_list PySem.F.slot_list_append PySem.F.type_list_append mt_append (pv 5) (pa_cons (pe_tup (pa_cons (pe_call GT hr1 rfl gT kT bT .nil pass0 (pa_cons (pv 0) (pa_cons (pv 3) pa_nil))) (pa_cons (pe_call GT hr1 rfl gT kT bT .nil pass0 (pa_cons (pv 0) (pa_cons (pv 4) pa_nil)))
          (pa_cons (pe_call GT hr1 rfl gT kT bT .nil pass0 (pa_cons (pv 0) (pa_cons (pe_ix ix_tup (pv 1) pe_int (fun _ _ => rfl)) pa_nil))) pa_nil)))) pa_nil)))))
      (pss_one (ps_ret (pv 5)))))), ?_⟩
    refine ⟨(by show 4 ≤ sizeLine; decide), fun L hL => ?_⟩
    have nL := hR.ne hL
    refine ⟨_, rfl, r, 4, rfl, hR.but (same_new hL), by decide, fun H1 v v0 v1 hR1 s1 => ?_⟩
    have eL : H1 L = some (.lst [.int 1, .int 5, .int 60, .int 1000]) := s1 _ _ nL upd_same
    have sb1 : SameBut r H H1 := sb_trans (sb_of (same_new hL)) s1
    obtain ⟨k, hk, k8⟩ : ∃ k : Int, atI [V.int 1, .int 5, .int 60, .int 1000] v = some (.int k) ∧ (1 ≤ k ∧ k ≤ 1000) := by
      rcases (by omega : v = 0 ∨ v = 1 ∨ v = 2 ∨ v = 3) with rfl | rfl | rfl | rfl
      · exact ⟨1, rfl, by decide⟩
      · exact ⟨5, rfl, by decide⟩
      · exact ⟨60, rfl, by decide⟩
      · exact ⟨1000, rfl, by decide⟩
    refine ⟨L, _, v, _, rfl, rfl, SqL.of eL, hk, ?_⟩
    refine ⟨_, rfl, a, _, 0, _, rfl, rfl, hTB sb1, atI_nat (j := 0) rfl, _, rfl, a, _, 0, _, rfl, rfl, hTB sb1, atI_nat (j := 0) rfl, _, _, rfl, (by show 2 ≤ sizeLine; decide), fun L2 hL2 => ?_⟩
    have nL2 := hR1.ne hL2
    refine ⟨_, rfl, r, 2, rfl, hR1.but (same_new hL2), by decide, fun H2 v2 v20 v21 hR2 s2 => ?_⟩
    have eL2 : H2 L2 = some (.lst [.int d.tr, .int (if (4 : Int) < d.tr then 4 else d.tr)]) := s2 _ _ nL2 upd_same
    have sb2 : SameBut r H H2 := sb_trans sb1 (sb_trans (sb_of (same_new hL2)) s2)
    have ht1 := g.t1
    obtain ⟨k2, hk2, k28⟩ : ∃ k : Int, atI [V.int d.tr, .int (if (4 : Int) < d.tr then 4 else d.tr)] v2 = some (.int k) ∧ (1 ≤ k ∧ k ≤ d.tr) := by
      rcases (by omega : v2 = 0 ∨ v2 = 1) with rfl | rfl
      · exact ⟨d.tr, rfl, by omega⟩
      · exact ⟨_, rfl, by split <;> omega⟩
    refine ⟨L2, _, v2, _, rfl, rfl, SqL.of eL2, hk2, Nat.zero_le _, fun F hF => ?_⟩
    have nF := hR2.ne hF
    have hF0 : H F = none := sb_free sb2 nF hF
    refine ⟨_, rfl, _, rfl, _, _, rfl, rfl, r, most + 1, rfl, hR2.but (same_new hF), by omega, fun H3 n n0 n1 hR3 s3 => ?_⟩
    have sb3 : SameBut r H H3 := sb_trans sb2 (sb_trans (sb_of (same_new hF)) s3)
    have eF3 : H3 F = some (.lst []) := s3 _ _ nF upd_same
    refine ⟨n, rfl, by omega, by omega, ?_⟩
    refine for_range (lo := 0) (n := n.toNat) (fun i σ H' => RowAt K H' r ∧ SameBut r H H' ∧ ∃ (l : List Ask) (xs : List V) (v6 : Option V), σ = [some (.ref r), some (.ref a), some (.int most), some (.int k), some (.int k2), some (.ref F), v6] ∧
        l.length = i ∧ xs.length = i ∧ (∀ x ∈ l, GoodAsk d x) ∧ H' F = some (.lst xs) ∧ DpAll K (wo (wo H' r) F) xs (l.map dAsk)) ⟨hR3, sb3, [], [], none, rfl, rfl, rfl, fun x hx => absurd hx (by simp), eF3, .nil⟩ ?_ ?_
    · rintro i σ H' hi ⟨hR', sb', l, xs, v6, rfl, hl, hx, hg, eF, hda⟩
      refine ⟨_, rfl, .inl ⟨rfl, _, SqL.of eF⟩, ?_⟩
      refine ⟨_, rfl, _, rfl, r, k, rfl, hR', by omega, fun H4 c c0 c1 hR4 s4 => ?_⟩
      refine ⟨_, rfl, _, rfl, r, k2, rfl, hR4, by omega, fun H5 t t0 t1 hR5 s5 => ?_⟩
      have sb5 := sb_trans sb' (sb_trans s4 s5)
      refine ⟨_, rfl, _, rfl, a, _, 1, _, rfl, rfl, hTB sb5, atI_nat (j := 1) rfl, r, d.sc, rfl, hR5, (by have := g.s1; omega), fun H6 z z0 z1 hR6 s6 => ?_⟩
      refine ⟨(by show 3 ≤ sizeLine; decide), fun p hp => ?_⟩
      have sb6 := sb_trans sb5 s6
      have sF6 := sb_trans s4 (sb_trans s5 s6)
      have eF6 : H6 F = some (.lst xs) := sF6 _ _ nF eF
      have nFp : F ≠ p := ne_of_none eF6 hp
      have npr : p ≠ r := hR6.ne hp
      refine ⟨F, xs, .ref p, rfl, rfl, by rw [upd_ne nFp]; exact eF6, small1000 (by omega), ?_⟩
      refine ⟨(hR6.but (same_new hp)).put nF (by rw [upd_ne nFp]; exact eF6), sb_old (sb_new sb6 hp) hF0, l ++ [(c, t, z)], xs ++ [.ref p], some (.int (0 + (i : Int))), rfl, by rw [List.length_append, hl]; rfl, by rw [List.length_append, hx]; rfl, ?_, upd_same, ?_⟩
      · intro x hx'
        rcases List.mem_append.mp hx' with h | h
        · exact hg x h
        · rw [List.mem_singleton.mp h]
          exact ⟨c0, by show c ≤ 999; omega, t0, by show t < d.tr; omega, z0, z1⟩
      · rw [List.map_append]
        refine dpa_snoc (dpa_same ?_ hda) ?_
        · exact wo2_step fun b o n1 n2 e => by rw [upd_ne n2, upd_ne (ne_of_none (sF6 b o n1 e) hp)]; exact sF6 b o n1 e
        · exact dp_tints_of (ns := [c, t, z]) (.inl (.inl (by rw [wo_ne nFp.symm, wo_ne npr, upd_ne nFp.symm, upd_same]; rfl)))
    · rintro σ H' ⟨hR', sb', l, xs, v6, rfl, hl, hx, hg, eF, hda⟩
      exact ⟨_, rfl, q H' F l xs ⟨by omega, hg⟩ (by omega) hR' sb' nF hF0 eF hda⟩
end
end Ag

namespace Ag
open PySem PySem.Spec PyProof.Rows L2
/-! ### the law's moved asks -/
open LamX NdefX
abbrev s_l_moved : Stmt := top 26
def sp_l_moved (K : PySem.W.Frag) : Sp := fun vs H Q _ => ∃ (v u : V) (d : Disk) (l : List Ask) (L M : Int) (m : Bool), vs = [v, u, .int L, .int M, .bl m] ∧ Dp K H v (dDisk d) ∧ Dp K H u (dAsks l) ∧ GoodDisk d ∧ l.length ≤ 1000 ∧
  ∀ (H' : Hp) (p : Addr) (xs : List V), Same H H' → H p = none → H' p = some (.lst xs) → DpAll K (fr H H' p) xs ((movedA d L M m l).map dAsk) → Q (.ref p) H'
theorem sc_l_moved : FnScope ["_law_disk_here", "_law_asks_here", "_law_later", "_law_more", "_law_turned", "_law_found", "_law_come", "_law_track", "_law_sector"] ["_law_disk_here", "_law_asks_here", "_law_later", "_law_more", "_law_turned"] (defScope s_l_moved) := ⟨rfl, rfl, rfl, by decide +kernel, rfl, by decide +kernel, by decide +kernel⟩
section
variable {P : Program} {w : World} {K : PySem.W.Frag} {mg : Str → Option Value} {base : Heap}
theorem ok_l_moved {f : Addr} {fd : FuncData} (F : Fun K "_law_moved" "_law_moved" s_l_moved f fd) : FnOk P w K mg base CX0 1 f fd ["_law_disk_here", "_law_asks_here", "_law_later", "_law_more", "_law_turned"] (sp_l_moved K) := by
  refine F.ok sc_l_moved (fun vs H Q E h => ?_) (fun cdv A outer s H vs Q E hr h => ?_)
  · obtain ⟨v, u, d, l, L, M, m, rfl, _⟩ := h
    rfl
  · obtain ⟨v, u, d, l, L, M, m, rfl, hd, ha, g, hlen, q⟩ := h
    obtain ⟨a, rfl, hT⟩ := dp_disk hd
    obtain ⟨b, xs, rfl, hL, hxl, hat⟩ := dp_asks ha
    have nd := sc_l_moved.nd
    refine ⟨_, (pss_cons (ps_set (i := 5) nd rfl (.inl rfl) (pe_lst pa_nil))
      (pss_cons (ps_for PassesOwn.never rfl (pi_list (pv 1)) (pg_tup rfl (pgs_cons (pg_name (i := 6) nd rfl (.inl rfl)) (pgs_cons (pg_name (i := 7) nd rfl (.inl rfl)) (pgs_cons (pg_name (i := 8) nd rfl (.inl rfl)) pgs_nil))))
        (pss_one (ps_expr (pe_bm PySem.F.plainAttrs_list PySem.F.slot_list_append PySem.F.type_list_append mt_append (pv 5) (pa_cons (pe_tup (pa_cons (pe_op op_add (pv 6) (pv 2)) (pa_cons (pe_ifExp (pt_val (pv 4)) (pe_op op_sub (pe_op op_sub (pe_ix (r := rIxT K) ix_tup (pv 0) pe_int (fun _ _ => rfl)) pe_int) (pv 7)) (pv 7)) (pa_cons (pe_op op_mod (pe_op op_add (pv 8) (pv 3)) (pe_ix (r := rIxT K) ix_tup (pv 0) pe_int (fun _ _ => rfl))) pa_nil)))) pa_nil)))))
      (pss_one (ps_ret (pv 5))))), ?_⟩
    refine ⟨Nat.zero_le _, fun F hF => ?_⟩
    have s0 : Same H (upd H F (.lst [])) := same_new hF
    refine ⟨_, rfl, b, rfl, ⟨_, s0.seq hL⟩, for_list (K := K) (a := b) (xs := xs)
      (fun i σ H' => Same H H' ∧ ∃ ys v6 v7 v8, σ = [some (.ref a), some (.ref b), some (.int L), some (.int M), some (.bl m), some (.ref F), v6, v7, v8] ∧
        H' F = some (.lst ys) ∧ ys.length = i ∧ DpAll K (fr H H' F) ys ((movedA d L M m (l.take i)).map dAsk))
      ⟨s0, [], none, none, none, rfl, upd_same, rfl, .nil⟩ (fun i σ H' _ ⟨s1, _⟩ => s1.seq hL) ?_ ?_⟩
    · rintro i y σ H' hi ⟨s1, ys, v6, v7, v8, rfl, eF, hyl, hda⟩
      have hlt : i < l.length := by
        have := (List.getElem?_eq_some_iff.mp hi).1
        omega
      obtain ⟨k, hk⟩ : ∃ k, l[i]? = some k := ⟨_, List.getElem?_eq_getElem hlt⟩
      obtain ⟨p, hp, hpT, hpd⟩ := hat i k hk
      rw [hi] at hp
      cases hp
      refine ⟨p, _, rfl, same_sqt s1 hpT, rfl, _, _, rfl, _, _, rfl, _, _, rfl, rfl, ?_⟩
      have fin : ∀ z : Int, z = (if m = true then d.tr - 1 - k.2.1 else k.2.1) → (2 < 3 → ∀ t, H' t = none → H' F ≠ none → Same H (upd (upd H' t (.tup [.int (k.1 + L), .int z, .int ((k.2.2 + M) % d.sc)])) F (.lst (ys ++ [.ref t]))) ∧
          DpAll K (fr H (upd (upd H' t (.tup [.int (k.1 + L), .int z, .int ((k.2.2 + M) % d.sc)])) F (.lst (ys ++ [.ref t]))) F) (ys ++ [.ref t]) ((movedA d L M m (l.take (i + 1))).map dAsk)) := fun z hz _ t ht _ => by
        have nFt : F ≠ t := ne_of_none eF ht
        have hHt : H t = none := s1.free ht
        refine ⟨same_upd (same_upd s1 hHt) hF, ?_⟩
        have e : (movedA d L M m (l.take (i + 1))).map dAsk = (movedA d L M m (l.take i)).map dAsk ++ [dAsk (k.1 + L, z, (k.2.2 + M) % d.sc)] := by
          unfold movedA
          rw [take_more hk, List.map_append, List.map_append, hz]
          rfl
        rw [e]
        refine dpa_snoc (dpa_same (fr_step (sb_upd (sb_new sb_refl ht))) hda) ?_
        exact dp_tints_of (ns := [k.1 + L, z, (k.2.2 + M) % d.sc]) (.inl (.inl (fr_at nFt.symm hHt (by rw [upd_ne nFt.symm, upd_same]; rfl))))
      have hsc : (0 : Int) < d.sc := by have := g.s1; omega
      have e0 : H' F ≠ none := fun z => by rw [eF] at z; cases z
      refine ⟨_, rfl, .inl ⟨rfl, _, SqL.of eF⟩, _, rfl, _, rfl, _, _, rfl, rfl, _, rfl, m, rfl, ?_⟩
      cases m with
      | true =>
        refine iteT ⟨_, rfl, a, _, 0, _, rfl, rfl, same_sqt s1 hT, atI_nat (j := 0) rfl, _, _, rfl, rfl, _, rfl, _, _, rfl, rfl, ?_⟩
        refine ⟨_, rfl, _, rfl, _, _, rfl, rfl, _, rfl, a, _, 1, _, rfl, rfl, same_sqt s1 hT, atI_nat (j := 1) rfl, _, _, rfl, rfl, hsc, (by show 3 ≤ sizeLine; decide), fun t ht => ?_⟩
        have nFt : F ≠ t := ne_of_none eF ht
        refine ⟨F, ys, .ref t, rfl, rfl, by rw [upd_ne nFt]; exact eF, small1000 (by omega), ?_⟩
        obtain ⟨h1, h2⟩ := fin (d.tr - 1 - k.2.1) rfl (by decide) t ht e0
        exact ⟨h1, ys ++ [.ref t], _, _, _, rfl, upd_same, by rw [List.length_append, hyl]; rfl, h2⟩
      | false =>
        refine iteF ⟨_, rfl, ?_⟩
        refine ⟨_, rfl, _, rfl, _, _, rfl, rfl, _, rfl, a, _, 1, _, rfl, rfl, same_sqt s1 hT, atI_nat (j := 1) rfl, _, _, rfl, rfl, hsc, (by show 3 ≤ sizeLine; decide), fun t ht => ?_⟩
        have nFt : F ≠ t := ne_of_none eF ht
        refine ⟨F, ys, .ref t, rfl, rfl, by rw [upd_ne nFt]; exact eF, small1000 (by omega), ?_⟩
        obtain ⟨h1, h2⟩ := fin k.2.1 rfl (by decide) t ht e0
        exact ⟨h1, ys ++ [.ref t], _, _, _, rfl, upd_same, by rw [List.length_append, hyl]; rfl, h2⟩
    · rintro σ H' ⟨s1, ys, v6, v7, v8, rfl, eF, hyl, hda⟩
      have e : l.take xs.length = l := List.take_of_length_le (by omega)
      rw [e] at hda
      exact ⟨_, rfl, q H' F ys s1 hF eF hda⟩
end
end Ag

namespace Ag
open PySem PySem.Spec PyProof.Rows L2
/-! ### the row and the code tables -/
open LamX NdefX
theorem rowAt_nt {K : PySem.W.Frag} {H : Hp} {r : Addr} (h : RowAt K H r) : RowAt K (ntH H) r := by
  obtain ⟨a, ns, pos, mix, h0, h1, h2⟩ := h
  refine ⟨a, ns, pos, mix, h0, ntH_some.mpr ⟨h1, fun ps q => by cases q⟩, ?_⟩
  rcases h2 with ⟨o, h⟩ | h
  · exact .inl ⟨o, ntH_some.mpr ⟨h, fun ps q => by cases q⟩⟩
  · exact .inr h
theorem tabs_row {K : PySem.W.Frag} {T : List (Addr × Str)} {H H' : Hp} {r : Addr} (h : Tabs T H) (hR : RowAt K H r) (s : SameBut r H H') : Tabs T H' := by
  obtain ⟨a, ns, pos, mix, h0, h1, h2⟩ := hR
  exact tabs_but h h1 (by intro _ q; cases q) (by intro _ q; cases q) s
/-! ### results as data -/
theorem res_dp {K : PySem.W.Frag} {H H' : Hp} {p c t : Addr} {xs : List V} {rs : List (Nat × Int)} {k : Int × Int × Int} (R : ResAt K H H' p c t xs rs k) : Dp K H' (.ref p) (dRes rs k) :=
  .tup (SqT.of R.hp) (.cons (.lst (SqL.of R.hc) (dpa_same fr_sub R.rows)) (.cons (dp_tints_of (SqT.of R.ht)) .nil))
theorem canLay_rows : ∀ l : List (Nat × Int), PyData.canLayAll0 (l.map dRow) = true
  | [] => by simp [PyData.canLayAll0]
  | n :: r => by simp [PyData.canLayAll0, PyData.canLay0, dRow, canLay_rows r]
theorem depth_rows : ∀ l : List (Nat × Int), PyData.depthAll (l.map dRow) ≤ 1
  | [] => by simp [PyData.depthAll]
  | n :: r => by
    have h := depth_rows r
    have e : PyData.depth (dRow n) = 1 := by
      unfold dRow
      rw [PyData.depth, PySem.W.depth_ints]
    rw [List.map_cons, PyData.depthAll, e]
    omega
theorem shaped_res (rs : List (Nat × Int)) (k : Int × Int × Int) : SeqAt.shaped (dRes rs k) = true := by
  have h1 := depth_rows rs
  have h2 : PyData.depth (dCosts k) = 1 := by
    unfold dCosts
    rw [PyData.depth, PySem.W.depth_ints]
  have h3 : PyData.canLay0 (dCosts k) = true := by
    unfold dCosts
    simp [PyData.canLay0, PyData.canLayAll0]
  have h4 : PyData.depth (dRes rs k) ≤ 3 := by
    unfold dRes
    rw [PyData.depth, PyData.depthAll, PyData.depthAll, PyData.depthAll, PyData.depth, h2]
    omega
  unfold SeqAt.shaped
  unfold dRes at h4 ⊢
  simp [PyData.canLay0, PyData.canLayAll0, canLay_rows, h3]
  omega
/-! ### the law -/
open LamX NdefX
abbrev s_law : Stmt := top 27
def sp_law (K : PySem.W.Frag) (T : List (Addr × Str)) : Sp := fun vs H Q _ => ∃ (a : Addr) (ns : List Int), vs = [.ref a] ∧ ScrAt K H a ns ∧ Tabs T H ∧ ∀ H', Q (.bl true) H'
theorem sc_law : FnScope ["_law_script", "_law_row", "_law_turn", "_law_disk_here", "_law_asks_here", "_law_later", "_law_far", "_law_rule", "_law_due", "_law_rows", "_law_costs", "_law_other", "_law_come", "_law_track", "_law_sector", "_law_number", "_law_done"] ["_law_script"] (defScope s_law) := ⟨rfl, rfl, rfl, by decide +kernel, rfl, by decide +kernel, by decide +kernel⟩
def modA (a : Ask) : Ask := (a.1 % 400, a.2)
def ZAsk (H : Hp) (y : V) (a : Ask) : Prop := ∃ t, y = .ref t ∧ H t = some (.tup [.int a.1, .int a.2.1, .int a.2.2])
theorem zask_dp {K : PySem.W.Frag} {H : Hp} {y : V} {a : Ask} (h : ZAsk H y a) : Dp K H y (dAsk a) := by
  obtain ⟨t, rfl, h⟩ := h
  exact dp_tints_of (ns := [a.1, a.2.1, a.2.2]) (SqT.of h)
theorem zask_same {H H' : Hp} {y : V} {a : Ask} (s : Same H H') (h : ZAsk H y a) : ZAsk H' y a := by
  obtain ⟨t, e, h⟩ := h
  exact ⟨t, e, s _ _ h⟩
theorem zask_upd {H : Hp} {y : V} {a : Ask} {Z : Addr} {ys : List V} {o : HO} (e : H Z = some (.lst ys)) (h : ZAsk H y a) : ZAsk (upd H Z o) y a := by
  obtain ⟨t, e2, h⟩ := h
  exact ⟨t, e2, by rw [upd_ne (ne_of h e (by intro q; cases q))]; exact h⟩
def ZRow (H : Hp) (y : V) (a : Nat × Int) : Prop := ∃ t, y = .ref t ∧ H t = some (.tup [.int (a.1 : Int), .int a.2])
theorem zrow_dp {K : PySem.W.Frag} {H : Hp} {y : V} {a : Nat × Int} (h : ZRow H y a) : Dp K H y (dRow a) := by
  obtain ⟨t, rfl, h⟩ := h
  exact dp_tints_of (ns := [(a.1 : Int), a.2]) (SqT.of h)
theorem zrow_same {H H' : Hp} {y : V} {a : Nat × Int} (s : Same H H') (h : ZRow H y a) : ZRow H' y a := by
  obtain ⟨t, e, h⟩ := h
  exact ⟨t, e, s _ _ h⟩
theorem zrow_upd {H : Hp} {y : V} {a : Nat × Int} {Z : Addr} {ys : List V} {o : HO} (e : H Z = some (.lst ys)) (h : ZRow H y a) : ZRow (upd H Z o) y a := by
  obtain ⟨t, e2, h⟩ := h
  exact ⟨t, e2, by rw [upd_ne (ne_of h e (by intro q; cases q))]; exact h⟩
theorem mod_good {d : Disk} {l : List Ask} (ga : GoodAsks d l) : GoodAsks d (l.map modA) ∧ ∀ a ∈ l.map modA, a.1 ≤ 399 := by
  refine ⟨⟨by rw [List.length_map]; exact ga.len, fun a ha => ?_⟩, fun a ha => ?_⟩
  · obtain ⟨b, hb, rfl⟩ := List.mem_map.mp ha
    have g := ga.all b hb
    exact ⟨by show 0 ≤ b.1 % 400; omega, by show b.1 % 400 ≤ 999; omega, g.t1, g.t2, g.s1, g.s2⟩
  · obtain ⟨b, hb, rfl⟩ := List.mem_map.mp ha
    show b.1 % 400 ≤ 399
    omega
theorem good_come {d : Disk} {l : List Ask} (ga : GoodAsks d l) (n : Nat) (hn : n < l.length) : 0 ≤ come l n := by
  have hg := ga.at (List.getElem?_eq_getElem hn)
  unfold come
  rw [getD_of (List.getElem?_eq_getElem hn)]
  exact hg.c1
def shR (L : Int) (x : Nat × Int) : Nat × Int := (x.1, x.2 + L)
theorem sh_zero (rs : List (Nat × Int)) : rs.map (shR 0) = rs := by
  have : shR 0 = id := by
    funext x
    show (x.1, x.2 + 0) = x
    rw [Int.add_zero]
  rw [this, List.map_id]
theorem zask_but {K : PySem.W.Frag} {H H' : Hp} {r : Addr} {y : V} {a : Ask} (hR : RowAt K H r) (s : SameBut r H H') (h : ZAsk H y a) : ZAsk H' y a := by
  obtain ⟨t, e, h⟩ := h
  obtain ⟨_, _, _, _, _, h1, _⟩ := hR
  exact ⟨t, e, s _ _ (ne_of h h1 (by intro q; cases q)) h⟩
theorem moved_res {d d' : Disk} {l : List Ask} {L M : Int} {m : Bool} {ru : Rule} (hs : d'.sc = d.sc) (hp : d'.pa = d.pa) (hh : d'.he = mir d m d.he) (hq : ∃ k, L = M + d.sc * k) (hr : m = false ∨ plainR ru = true) (hL : 0 ≤ L) (ga : GoodAsks d l) :
    ruledR d' (movedA d L M m l) ru = (ruledR d l ru).map (shR L) ∧ costsOf d' (movedA d L M m l) (ruledR d' (movedA d L M m l) ru) = costsOf d l (ruledR d l ru) := by
  have mv := moved_of (l := l) hs hp hh hq
  have e : ruledR d' (movedA d L M m l) ru = (ruledR d l ru).map (shR L) := ruled_moved mv hr hL (fun n hn => good_come ga n hn)
  refine ⟨e, ?_⟩
  rw [e]
  exact costs_moved mv (ruledR_lt d l ru)
section
variable {P : Program} {w : World} {K : PySem.W.Frag} {mg : Str → Option Value} {base : Heap}
set_option maxHeartbeats 16000000 in
theorem ok_law {f fT fD fA fM fR : Addr} {fd fdT fdD fdA fdM fdR : FuncData} {T : List (Addr × Str)} (F : Fun K "law" "law" s_law f fd)
    (G__law_taken : FnOk P w K mg base CX0 1 fT fdT ["_law_row", "_law_many"] (sp_l_taken K)) (C__law_taken : Cal K mg "_law_taken" fT fdT ["_law_row", "_law_many"])
    (G__law_disk : FnOk P w K mg base CX0 2 fD fdD ["_law_row"] (sp_l_disk K)) (C__law_disk : Cal K mg "_law_disk" fD fdD ["_law_row"])
    (G__law_asks : FnOk P w K mg base CX0 2 fA fdA ["_law_row", "_law_disk_here", "_law_most"] (sp_l_asks K)) (C__law_asks : Cal K mg "_law_asks" fA fdA ["_law_row", "_law_disk_here", "_law_most"])
    (G__law_moved : FnOk P w K mg base CX0 1 fM fdM ["_law_disk_here", "_law_asks_here", "_law_later", "_law_more", "_law_turned"] (sp_l_moved K)) (C__law_moved : Cal K mg "_law_moved" fM fdM ["_law_disk_here", "_law_asks_here", "_law_later", "_law_more", "_law_turned"])
    (G_by_rule : FnOk P w K mg base CX0 10 fR fdR ["disk", "asks", "rule"] (sp_by_rule K T)) (C_by_rule : Cal K mg "by_rule" fR fdR ["disk", "asks", "rule"])
    (mb_range : mg "range" = none) : FnOk P w K mg base CX0 11 f fd ["_law_script"] (sp_law K T) := by
  refine F.ok sc_law (fun vs H Q E h => ?_) (fun cdv A outer s H vs Q E hr h => ?_)
  · obtain ⟨a, ns, rfl, _⟩ := h
    rfl
  · obtain ⟨a, ns, rfl, hS, hT0, q⟩ := h
    have nd := sc_law.nd
    have hr__law_taken : Room 1 _ := hr.mono (by decide)
    have hr__law_disk : Room 2 _ := hr.mono (by decide)
    have hr__law_asks : Room 2 _ := hr.mono (by decide)
    have hr__law_moved : Room 1 _ := hr.mono (by decide)
    have hr_by_rule : Room 10 _ := hr
    refine ⟨_, (pss_cons (ps_set (i := 1) nd rfl (.inl rfl) (pe_lst (pa_cons (pv 0) (pa_cons pe_int (pa_cons pe_int pa_nil)))))
      (pss_cons (ps_for PassesOwn.never rfl (pi_range1 rfl mb_range (pa_cons pe_int pa_nil)) (pg_name (i := 2) nd rfl (.inl rfl))
        (pss_cons (ps_set (i := 3) nd rfl (.inl rfl) (pe_call G__law_disk hr__law_disk rfl C__law_disk.m C__law_disk.k C__law_disk.b .nil pass0 (pa_cons (pv 1) pa_nil)))
      (pss_cons (ps_setLc (i := 4) (own := [("_law_come", 12), ("_law_track", 13), ("_law_sector", 14)]) (g := (gTup K 3 (gCons (gName 12) (gCons (gName 13) (gCons (gName 14) gNil))))) (tt := tYes) rfl nd rfl rfl (sw_true rfl rfl rfl (by decide +kernel)) (pi_list (pe_call G__law_asks hr__law_asks rfl C__law_asks.m C__law_asks.k C__law_asks.b .nil pass0 (pa_cons (pv 1) (pa_cons (pv 3) (pa_cons pe_int pa_nil))))) (blkOk_by (own := [("_law_come", 12), ("_law_track", 13), ("_law_sector", 14)]) (N := ["_law_script", "_law_row", "_law_turn", "_law_disk_here", "_law_asks_here", "_law_later", "_law_far", "_law_rule", "_law_due", "_law_rows", "_law_costs", "_law_other", "_law_come", "_law_track", "_law_sector", "_law_number", "_law_done"]) (sc := defScope s_law) (by decide +kernel)) (fun _ _ _ _ _ => (pg_tup rfl (pgs_cons (pg_name (i := 12) nd rfl (.inl rfl)) (pgs_cons (pg_name (i := 13) nd rfl (.inl rfl)) (pgs_cons (pg_name (i := 14) nd rfl (.inl rfl)) pgs_nil))))) (fun _ _ _ _ _ => pts_nil) (fun _ _ _ _ _ => (pe_op (r := rCatT K) op_catT (pe_tup (pa_cons (pe_op op_mod (pv 12) pe_int) pa_nil)) (pe_tup (pa_cons (pv 13) (pa_cons (pv 14) pa_nil))))))
      (pss_cons (ps_set (i := 5) nd rfl (.inr rfl) (pe_op op_mul (pe_ix (r := rIxT K) ix_tup (pv 3) pe_int (fun _ _ => rfl)) (pe_call G__law_taken hr__law_taken rfl C__law_taken.m C__law_taken.k C__law_taken.b .nil pass0 (pa_cons (pv 1) (pa_cons pe_int pa_nil)))))
      (pss_cons (ps_set (i := 6) nd rfl (.inr rfl) (pe_op op_add pe_int (pe_call G__law_taken hr__law_taken rfl C__law_taken.m C__law_taken.k C__law_taken.b .nil pass0 (pa_cons (pv 1) (pa_cons pe_int pa_nil)))))
      (pss_one (ps_for PassesOwn.never rfl (pi_list (pe_lst (pa_cons pe_str (pa_cons pe_str (pa_cons pe_str (pa_cons pe_str (pa_cons pe_str pa_nil))))))) (pg_name (i := 7) nd rfl (.inl rfl))
        (pss_cons (ps_asg (pe_call G_by_rule hr_by_rule rfl C_by_rule.m C_by_rule.k C_by_rule.b .nil pass0 (pa_cons (pv 3) (pa_cons (pv 4) (pa_cons (pv 7) pa_nil)))) (pg_tup rfl (pgs_cons (pg_name (i := 9) nd rfl (.inl rfl)) (pgs_cons (pg_name (i := 10) nd rfl (.inl rfl)) pgs_nil))))
      (pss_cons (ps_set (i := 8) nd rfl (.inl rfl) (pe_tup (pa_cons (pe_lc (own := [("_law_number", 15), ("_law_done", 16)]) (g := (gTup K 2 (gCons (gName 15) (gCons (gName 16) gNil)))) (tt := tYes) rfl nd (pi_list (pv 9)) (blkOk_by (own := [("_law_number", 15), ("_law_done", 16)]) (N := ["_law_script", "_law_row", "_law_turn", "_law_disk_here", "_law_asks_here", "_law_later", "_law_far", "_law_rule", "_law_due", "_law_rows", "_law_costs", "_law_other", "_law_come", "_law_track", "_law_sector", "_law_number", "_law_done"]) (sc := defScope s_law) (by decide +kernel)) (fun _ _ _ _ _ => (pg_tup rfl (pgs_cons (pg_name (i := 15) nd rfl (.inl rfl)) (pgs_cons (pg_name (i := 16) nd rfl (.inl rfl)) pgs_nil)))) (fun _ _ _ _ _ => pts_nil) (fun _ _ _ _ _ => (pe_tup (pa_cons (pv 15) (pa_cons (pe_op op_add (pv 16) (pv 5)) pa_nil))))) (pa_cons (pv 10) pa_nil))))
      (pss_cons (ps_if (pt_cmpR (op_neD hr.units) (pe_call G_by_rule hr_by_rule rfl C_by_rule.m C_by_rule.k C_by_rule.b .nil pass0 (pa_cons (pv 3) (pa_cons (pe_call G__law_moved hr__law_moved rfl C__law_moved.m C__law_moved.k C__law_moved.b .nil pass0 (pa_cons (pv 3) (pa_cons (pv 4) (pa_cons (pv 5) (pa_cons pe_int (pa_cons pe_bl pa_nil)))))) (pa_cons (pv 7) pa_nil)))) (pv 8) (nomark _)) (pss_one (ps_ret pe_bl)) pss_nil)
      (pss_cons (ps_set (i := 8) nd rfl (.inl rfl) (pe_tup (pa_cons (pe_lc (own := [("_law_number", 15), ("_law_done", 16)]) (g := (gTup K 2 (gCons (gName 15) (gCons (gName 16) gNil)))) (tt := tYes) rfl nd (pi_list (pv 9)) (blkOk_by (own := [("_law_number", 15), ("_law_done", 16)]) (N := ["_law_script", "_law_row", "_law_turn", "_law_disk_here", "_law_asks_here", "_law_later", "_law_far", "_law_rule", "_law_due", "_law_rows", "_law_costs", "_law_other", "_law_come", "_law_track", "_law_sector", "_law_number", "_law_done"]) (sc := defScope s_law) (by decide +kernel)) (fun _ _ _ _ _ => (pg_tup rfl (pgs_cons (pg_name (i := 15) nd rfl (.inl rfl)) (pgs_cons (pg_name (i := 16) nd rfl (.inl rfl)) pgs_nil)))) (fun _ _ _ _ _ => pts_nil) (fun _ _ _ _ _ => (pe_tup (pa_cons (pv 15) (pa_cons (pe_op op_add (pv 16) (pv 6)) pa_nil))))) (pa_cons (pv 10) pa_nil))))
      (pss_cons (ps_if (pt_cmpR (op_neD hr.units) (pe_call G_by_rule hr_by_rule rfl C_by_rule.m C_by_rule.k C_by_rule.b .nil pass0 (pa_cons (pv 3) (pa_cons (pe_call G__law_moved hr__law_moved rfl C__law_moved.m C__law_moved.k C__law_moved.b .nil pass0 (pa_cons (pv 3) (pa_cons (pv 4) (pa_cons (pv 6) (pa_cons (pv 6) (pa_cons pe_bl pa_nil)))))) (pa_cons (pv 7) pa_nil)))) (pv 8) (nomark _)) (pss_one (ps_ret pe_bl)) pss_nil)
      (pss_one (ps_if (pt_cmpR (r := rIn K false) op_in_seq (pv 7) (pe_tup (pa_cons pe_str (pa_cons pe_str (pa_cons pe_str pa_nil)))) (by rfl)) (pss_cons (ps_set (i := 11) nd rfl (.inl rfl) (pe_op op_catT (pe_slice (r := rSlT K) sl_tup (pv 3) po_none (po_some pe_int)) (pe_tup (pa_cons (pe_op op_sub (pe_op op_sub (pe_ix (r := rIxT K) ix_tup (pv 3) pe_int (fun _ _ => rfl)) pe_int) (pe_ix (r := rIxT K) ix_tup (pv 3) pe_int (fun _ _ => rfl))) pa_nil))))
      (pss_one (ps_if (pt_cmpR (op_neD hr.units) (pe_call G_by_rule hr_by_rule rfl C_by_rule.m C_by_rule.k C_by_rule.b .nil pass0 (pa_cons (pv 11) (pa_cons (pe_call G__law_moved hr__law_moved rfl C__law_moved.m C__law_moved.k C__law_moved.b .nil pass0 (pa_cons (pv 3) (pa_cons (pv 4) (pa_cons pe_int (pa_cons pe_int (pa_cons pe_bl pa_nil)))))) (pa_cons (pv 7) pa_nil)))) (pe_tup (pa_cons (pv 9) (pa_cons (pv 10) pa_nil))) (nomark _)) (pss_one (ps_ret pe_bl)) pss_nil))) pss_nil))))))))))))))
      (pss_one (ps_ret pe_bl)))), ?_⟩
    refine ⟨_, rfl, (by show 3 ≤ sizeLine; decide), fun r hr0 => ?_⟩
    have hR0 := row_start hS hr0
    have hT1 : Tabs T _ := hT0.ext (same_new (o := .lst [.ref a, .int 0, .int 0]) hr0)
    refine ⟨3, rfl, by decide, by decide, ?_⟩
    refine for_range (lo := 0) (n := 3) (fun i σ H' => RowAt K H' r ∧ Tabs T H' ∧ ∃ v2 v3 v4 v5 v6 v7 v8 v9 v10 v11 v12 v13 v14 v15 v16 : Option V, σ = [some (.ref a), some (.ref r), v2, v3, v4, v5, v6, v7, v8, v9, v10, v11, v12, v13, v14, v15, v16]) ⟨hR0, hT1, none, none, none, none, none, none, none, none, none, none, none, none, none, none, none, rfl⟩ ?_ ?_
    · rintro i0 σ H0 hi ⟨hR, hT, v2, v3, v4, v5, v6, v7, v8, v9, v10, v11, v12, v13, v14, v15, v16, rfl⟩
      refine ⟨_, rfl, r, rfl, hR, fun H1 pd d g hR1 sb1 npd ed => ?_⟩
      have hTa := tabs_row hT hR sb1
      have dpd1 : Dp K (wo H1 r) (.ref pd) (dDisk d) := dp_tints_of (.inl (.inl (by rw [wo_ne npd]; exact ed)))
      refine ⟨_, rfl, _, rfl, r, .ref pd, d, 20, rfl, hR1, dpd1, g, by decide, by decide, fun H3 pa l0 xs ga0 hl hR3 sb3 npa hpa0 epa hda => ?_⟩
      have hTc := tabs_row hTa hR1 sb3
      have hl20 : l0.length ≤ 20 := by omega
      have ed3 : H3 pd = some (.tup ([d.tr, d.sc, d.pa, d.he].map V.int)) := sb3 _ _ npd ed
      have hxs3 : DpAll K H3 xs (l0.map dAsk) := dpa_same (wo_sub.trans wo_sub) hda
      refine ⟨pa, rfl, ⟨_, SqL.of epa⟩, fun Z hZ => ?_⟩
      have sZ := same_new (o := .lst []) hZ
      refine lc_list (K := K) (a := pa) (xs := xs) (fun i H' => Same H3 H' ∧ ∃ ys, H' Z = some (.lst ys) ∧ All2 (ZAsk H') ys ((l0.take i).map modA)) ⟨sZ, [], upd_same, trivial⟩ (fun i H' _ ⟨s, _⟩ => SqL.of (s _ _ epa)) ?_ ?_
      · rintro i x H' hi1 ⟨s1, ys, eZ, hys⟩
        obtain ⟨y, hy, hx⟩ := dpa_get' hxs3 hi1
        obtain ⟨k, hk, rfl⟩ : ∃ k, l0[i]? = some k ∧ y = dAsk k := by
          rw [List.getElem?_map] at hy
          cases e : l0[i]? with
          | none => rw [e] at hy; cases hy
          | some k => rw [e] at hy; exact ⟨k, rfl, (Option.some.inj hy).symm⟩
        obtain ⟨t, rfl, ht⟩ := dp_tints hx
        refine ⟨t, _, rfl, same_sqt s1 ht, rfl, _, _, rfl, _, _, rfl, _, _, rfl, rfl, rfl, ?_⟩
        refine ⟨_, rfl, _, _, rfl, rfl, (by show (0 : Int) < 400; decide), (by show 1 ≤ sizeLine; decide), fun t1 ht1 => ?_⟩
        have s2 := same_new (o := HO.tup [V.int (k.1 % 400)]) ht1
        refine ⟨_, rfl, _, rfl, (by show 2 ≤ sizeLine; decide), fun t3 ht3 => ?_⟩
        have s3 := same_new (o := HO.tup [V.int k.2.1, V.int k.2.2]) ht3
        refine ⟨t1, t3, [.int (k.1 % 400)], [.int k.2.1, .int k.2.2], rfl, rfl, SqT.of (s3 _ _ upd_same), SqT.of upd_same, by simp, by show 1 + 2 ≤ sizeLine; decide, (fun z => absurd z (by simp)), fun _ p hp => ?_⟩
        have s4 := same_new (o := HO.tup ([V.int (k.1 % 400)] ++ [V.int k.2.1, V.int k.2.2])) hp
        have s24 := s2.trans (s3.trans s4)
        have eZ4 := s24 _ _ eZ
        have npZ : p ≠ Z := fun e => by rw [e, (s2.trans s3) _ _ eZ] at hp; cases hp
        have hil : i < l0.length := (List.getElem?_eq_some_iff.mp hk).1
        have hyl : ys.length ≤ 20 := by rw [all2_len hys, List.length_map, List.length_take]; omega
        refine ⟨ys, eZ4, small1000 (by omega), same_upd (s1.trans s24) hZ, ys ++ [.ref p], upd_same, ?_⟩
        rw [take_more hk, List.map_append]
        refine all2_snoc ⟨p, rfl, by rw [upd_ne npZ, upd_same]; rfl⟩ (all2_mono (fun y a h => zask_upd eZ4 (zask_same s24 h)) hys)
      · rintro H' ⟨s1, ys, eZ, hys⟩
        rw [List.take_of_length_le (by rw [← List.length_map (f := dAsk), ← dpa_len hda]; exact Nat.le_refl _)] at hys
        obtain ⟨ga, h399⟩ := mod_good ga0
        have hl20 : (l0.map modA).length ≤ 20 := by rw [List.length_map]; exact hl20
        have hTd := hTc.ext s1
        have hRd := hR3.but s1
        have edd := s1 _ _ ed3
        revert hys ga h399 hl20
        generalize l0.map modA = l
        intro hys ga h399 hl20
        have nZ := hR3.ne hZ
        have npd3 := npd
        refine ⟨_, rfl, pd, _, 1, _, rfl, rfl, SqT.of edd, atI_nat (j := 1) rfl, _, rfl, r, 30, rfl, hRd, by decide, fun H4 z z0 z1 hR4 s4 => ?_⟩
        have hT4 := tabs_row hTd hRd s4
        have ed4 := s4 _ _ npd edd
        have eZ4 := s4 _ _ nZ eZ
        have hys4 : All2 (ZAsk H4) ys l := all2_mono (fun v a h => zask_but hRd s4 h) hys
        have hL0 : 0 ≤ d.sc * z := Int.mul_nonneg (by have := g.s1; omega) (by omega)
        have hL1 : d.sc * z ≤ 464 := by
          have h1 : d.sc * z ≤ 16 * z := Int.mul_le_mul_of_nonneg_right g.s2 z0
          omega
        refine ⟨_, _, rfl, rfl, .inl ⟨by have := g.s1; show -(2 ^ 64 : Int) < d.sc; omega, by have := g.s2; show d.sc < (2 ^ 64 : Int); omega⟩, ?_⟩
        show gName 5 (V.int (d.sc * z)) [some (.ref a), some (.ref r), some (.int (0 + (i0 : Int))), some (.ref pd), some (.ref Z), v5, v6, v7, v8, v9, v10, v11, v12, v13, v14, v15, v16] _ _
        obtain ⟨L, hL⟩ : ∃ L, d.sc * z = L := ⟨_, rfl⟩
        rw [hL]
        rw [hL] at hL0 hL1
        refine ⟨_, rfl, r, 100, rfl, hR4, by decide, fun H5 z2 z20 z21 hR5 s5 => ?_⟩
        have hT5 := tabs_row hT4 hR4 s5
        have ed5 := s5 _ _ npd ed4
        have eZ5 := s5 _ _ nZ eZ4
        have hys5 : All2 (ZAsk H5) ys l := all2_mono (fun v a h => zask_but hR4 s5 h) hys4
        refine ⟨_, _, rfl, rfl, ?_⟩
        show gName 6 (V.int (1 + z2)) [some (.ref a), some (.ref r), some (.int (0 + (i0 : Int))), some (.ref pd), some (.ref Z), some (.int L), v6, v7, v8, v9, v10, v11, v12, v13, v14, v15, v16] _ _
        obtain ⟨M, hM⟩ : ∃ M, 1 + z2 = M := ⟨_, rfl⟩
        rw [hM]
        refine ⟨(by show 5 ≤ sizeLine; decide), fun RL hRL => ?_⟩
        have s6 := same_new (o := HO.lst rulesV) hRL
        have hT6 := hT5.ext s6
        have eRL : upd H5 RL (.lst rulesV) RL = some (.lst rulesV) := upd_same
        have fR : RowAt K (ntH (upd H5 RL (.lst rulesV))) r := rowAt_nt (hR5.but s6)
        have fPD : ntH (upd H5 RL (.lst rulesV)) pd = some (.tup ([d.tr, d.sc, d.pa, d.he].map V.int)) := ntH_some.mpr ⟨s6 _ _ ed5, fun ps q => by cases q⟩
        have fD : Dp K (ntH (upd H5 RL (.lst rulesV))) (.ref pd) (dDisk d) := dp_tints_of (SqT.of fPD)
        have fA : Dp K (ntH (upd H5 RL (.lst rulesV))) (.ref Z) (dAsks l) := dp_nt (.lst (SqL.of (s6 _ _ eZ5)) (all2_dpa (fun v a h => zask_dp (zask_same s6 h)) hys5))
        have fRL : ntH (upd H5 RL (.lst rulesV)) RL = some (.lst rulesV) := ntH_some.mpr ⟨eRL, fun ps q => by cases q⟩
        obtain ⟨Hq, hHq⟩ : ∃ Hq, Hq = upd H5 RL (.lst rulesV) := ⟨_, rfl⟩
        rw [← hHq] at fR fPD fD fA fRL
        have hq1 : Same (ntH Hq) (upd H5 RL (.lst rulesV)) := by rw [hHq]; exact ntH_sub _
        refine ⟨RL, rfl, ⟨_, SqL.of (hq1 _ _ fRL)⟩, for_list (K := K) (a := RL) (xs := rulesV) (fun i σ H' => Same (ntH Hq) H' ∧ Tabs T H' ∧ ∃ (v7 v8 v9 v10 v11 v12 v13 v14 v15 v16 : Option V), σ = [some (.ref a), some (.ref r), some (.int (0 + (i0 : Int))), some (.ref pd), some (.ref Z), some (.int L), some (.int M), v7, v8, v9, v10, v11, v12, v13, v14, v15, v16])
          ⟨hq1, hT6, _, _, _, _, _, _, _, _, _, _, rfl⟩ (fun i σ H' _ ⟨s, _⟩ => SqL.of (s _ _ fRL)) ?_ ?_⟩
        · rintro i x σ H6 hi1 ⟨sG, hT6, v7, v8, v9, v10, v11, v12, v13, v14, v15, v16, rfl⟩
          obtain ⟨ru, hru, rfl⟩ : ∃ ru, RLS[i]? = some ru ∧ x = V.str (ruleS ru) := by
            unfold rulesV at hi1
            rw [List.getElem?_map] at hi1
            cases e : RLS[i]? with
            | none => rw [e] at hi1; cases hi1
            | some ru => rw [e] at hi1; exact ⟨ru, rfl, (Option.some.inj hi1).symm⟩
          refine ⟨_, rfl, _, rfl, _, rfl, .ref pd, .ref Z, d, l, ru, rfl, dp_same sG fD, dp_same sG fA, g, ga, hT6, fun H7 p c t xs2 hT7 res => ?_⟩
          refine ⟨p, _, rfl, SqT.of res.hp, rfl, _, _, rfl, _, _, rfl, rfl, ?_⟩
          have sG7 : Same (ntH Hq) (ntH H7) := ntH_idem ((ntH_idem sG).trans res.same)
          have hrows7 : DpAll K (ntH H7) xs2 ((ruledR d l ru).map dRow) := dpa_nt (dpa_same fr_sub res.rows)
          have ec : ntH H7 c = some (.lst xs2) := ntH_some.mpr ⟨res.hc, fun ps q => by cases q⟩
          have et : ntH H7 t = some (.tup ([(costsOf d l (ruledR d l ru)).1, (costsOf d l (ruledR d l ru)).2.1, (costsOf d l (ruledR d l ru)).2.2].map V.int)) := ntH_some.mpr ⟨res.ht, fun ps q => by cases q⟩
          have s70 : Same (ntH H7) H7 := ntH_sub H7
          have hxl2 : xs2.length = l.length := by rw [dpa_len hrows7, List.length_map, ruledR_len]
          show Ends.nx _ [some (.ref a), some (.ref r), some (.int (0 + (i0 : Int))), some (.ref pd), some (.ref Z), some (.int L), some (.int M), some (.str (ruleS ru)), v8, some (.ref c), some (.ref t), v11, v12, v13, v14, v15, v16] _
          refine ⟨_, rfl, c, rfl, ⟨_, SqL.of (s70 _ _ ec)⟩, fun D1 hD1 => ?_⟩
          refine lc_list (K := K) (a := c) (xs := xs2) (fun i H' => Same H7 H' ∧ ∃ ys, H' D1 = some (.lst ys) ∧ All2 (ZRow H') ys (((ruledR d l ru).take i).map (shR L))) ⟨same_new hD1, [], upd_same, trivial⟩ (fun i H' _ ⟨s, _⟩ => SqL.of ((s70.trans s) _ _ ec)) ?_ ?_
          · rintro i x H' hi ⟨s1, ys, eY, hys⟩
            obtain ⟨y, hy, hx⟩ := dpa_get' (dpa_same (s70.trans s1) hrows7) hi
            obtain ⟨w0, hw0, rfl⟩ : ∃ w0, (ruledR d l ru)[i]? = some w0 ∧ y = dRow w0 := by
              rw [List.getElem?_map] at hy
              cases e : (ruledR d l ru)[i]? with
              | none => rw [e] at hy; cases hy
              | some k => rw [e] at hy; exact ⟨k, rfl, (Option.some.inj hy).symm⟩
            obtain ⟨t5, rfl, ht5⟩ := dp_tints (ns := [(w0.1 : Int), w0.2]) hx
            have hi5 : i < l.length := by rw [← ruledR_len d l ru]; exact (List.getElem?_eq_some_iff.mp hw0).1
            refine ⟨t5, _, rfl, ht5, rfl, _, _, rfl, _, _, rfl, rfl, rfl, _, rfl, _, rfl, _, rfl, _, _, rfl, rfl, (by show 2 ≤ sizeLine; decide), fun t6 ht6 => ?_⟩
            have s2 := same_new (o := HO.tup [V.int (w0.1 : Int), V.int (w0.2 + L)]) ht6
            have eY2 := s2 _ _ eY
            have n6 : t6 ≠ D1 := fun e => by rw [e, eY] at ht6; cases ht6
            have hyl : ys.length ≤ 20 := by rw [all2_len hys, List.length_map, List.length_take]; omega
            refine ⟨ys, eY2, small1000 (by omega), same_upd (s1.trans s2) hD1, ys ++ [.ref t6], upd_same, ?_⟩
            rw [take_more hw0, List.map_append]
            exact all2_snoc ⟨t6, rfl, by rw [upd_ne n6, upd_same]; rfl⟩ (all2_mono (fun y a h => zrow_upd eY2 (zrow_same s2 h)) hys)
          · rintro H11 ⟨s11, ys1, eY1, hys1⟩
            rw [List.take_of_length_le (by rw [dpa_len hrows7, List.length_map]; exact Nat.le_refl _)] at hys1
            refine ⟨_, rfl, (by show 2 ≤ sizeLine; decide), fun p1 hp1 => ?_⟩
            have s12 := same_new (o := HO.tup [V.ref D1, V.ref t]) hp1
            have s71 := s70.trans (s11.trans s12)
            have dD1 : Dp K (upd H11 p1 (HO.tup [V.ref D1, V.ref t])) (.ref p1) (dRes ((ruledR d l ru).map (shR L)) (costsOf d l (ruledR d l ru))) :=
              .tup (SqT.of upd_same) (.cons (.lst (SqL.of (s12 _ _ eY1)) (all2_dpa (fun v a h => zrow_dp (zrow_same s12 h)) hys1)) (.cons (dp_tints_of (SqT.of (s71 _ _ et))) .nil))
            have hT12 := hT7.ext (s11.trans s12)
            have sG12 := (sG7.trans s70).trans (s11.trans s12)
            revert s71 dD1 hT12 sG12
            generalize upd H11 p1 (HO.tup [V.ref D1, V.ref t]) = H12
            intro s71 dD1 hT12 sG12
            show gName 8 (V.ref p1) [some (.ref a), some (.ref r), some (.int (0 + (i0 : Int))), some (.ref pd), some (.ref Z), some (.int L), some (.int M), some (.str (ruleS ru)), v8, some (.ref c), some (.ref t), v11, v12, v13, v14, v15, v16] _ _
            refine ⟨_, rfl, _, rfl, _, rfl, _, rfl, .ref pd, .ref Z, d, l, L, 0, false, rfl, dp_same sG12 fD, dp_same sG12 fA, g, by omega, fun H13 pm1 xm1 sm1 pm01 epm1 hdm1 => ?_⟩
            have sG13 := sG12.trans sm1
            have hT13 := hT12.ext sm1
            have gm1 : GoodAsks d (movedA d L 0 false l) := movedA_good g ga hL0 (fun a ha => by have := h399 a ha; omega) rfl rfl
            obtain ⟨er1, ec1⟩ := moved_res (d := d) (d' := d) (l := l) (L := L) (M := 0) (m := false) (ru := ru) rfl rfl rfl (⟨z, by omega⟩) (.inl rfl) (by omega) ga
            refine ⟨_, rfl, .ref pd, .ref pm1, d, movedA d L 0 false l, ru, rfl, dp_same sG13 fD, .lst (SqL.of epm1) (dpa_same fr_sub hdm1), g, gm1, hT13, fun H14 p14 c14 t14 xs14 hT14 res14 => ?_⟩
            rw [ec1, er1] at res14
            have s714 : Same (ntH H7) H14 := (ntH_idem (s71.trans sm1)).trans res14.same
            have sG14 : Same (ntH Hq) H14 := (ntH_idem sG13).trans res14.same
            refine ⟨_, rfl, _, _, res_dp res14, dp_same res14.same (dp_nt (dp_same sm1 dD1)), shaped_res _ _, shaped_res _ _, _, rfl, ?_⟩
            rw [SeqAt.eqv_refl _ (SeqAt.canLay_of_shaped (shaped_res _ _))]
            refine iteF ?_
            refine ⟨_, rfl, c, rfl, ⟨_, SqL.of (s714 _ _ ec)⟩, fun D2 hD2 => ?_⟩
            refine lc_list (K := K) (a := c) (xs := xs2) (fun i H' => Same H14 H' ∧ ∃ ys, H' D2 = some (.lst ys) ∧ All2 (ZRow H') ys (((ruledR d l ru).take i).map (shR M))) ⟨same_new hD2, [], upd_same, trivial⟩ (fun i H' _ ⟨s, _⟩ => SqL.of ((s714.trans s) _ _ ec)) ?_ ?_
            · rintro i x H' hi ⟨s1, ys, eY, hys⟩
              obtain ⟨y, hy, hx⟩ := dpa_get' (dpa_same (s714.trans s1) hrows7) hi
              obtain ⟨w0, hw0, rfl⟩ : ∃ w0, (ruledR d l ru)[i]? = some w0 ∧ y = dRow w0 := by
                rw [List.getElem?_map] at hy
                cases e : (ruledR d l ru)[i]? with
                | none => rw [e] at hy; cases hy
                | some k => rw [e] at hy; exact ⟨k, rfl, (Option.some.inj hy).symm⟩
              obtain ⟨t5, rfl, ht5⟩ := dp_tints (ns := [(w0.1 : Int), w0.2]) hx
              have hi5 : i < l.length := by rw [← ruledR_len d l ru]; exact (List.getElem?_eq_some_iff.mp hw0).1
              refine ⟨t5, _, rfl, ht5, rfl, _, _, rfl, _, _, rfl, rfl, rfl, _, rfl, _, rfl, _, rfl, _, _, rfl, rfl, (by show 2 ≤ sizeLine; decide), fun t6 ht6 => ?_⟩
              have s2 := same_new (o := HO.tup [V.int (w0.1 : Int), V.int (w0.2 + M)]) ht6
              have eY2 := s2 _ _ eY
              have n6 : t6 ≠ D2 := fun e => by rw [e, eY] at ht6; cases ht6
              have hyl : ys.length ≤ 20 := by rw [all2_len hys, List.length_map, List.length_take]; omega
              refine ⟨ys, eY2, small1000 (by omega), same_upd (s1.trans s2) hD2, ys ++ [.ref t6], upd_same, ?_⟩
              rw [take_more hw0, List.map_append]
              exact all2_snoc ⟨t6, rfl, by rw [upd_ne n6, upd_same]; rfl⟩ (all2_mono (fun y a h => zrow_upd eY2 (zrow_same s2 h)) hys)
            · rintro H21 ⟨s21, ys2, eY2, hys2⟩
              rw [List.take_of_length_le (by rw [dpa_len hrows7, List.length_map]; exact Nat.le_refl _)] at hys2
              refine ⟨_, rfl, (by show 2 ≤ sizeLine; decide), fun p2 hp2 => ?_⟩
              have s22 := same_new (o := HO.tup [V.ref D2, V.ref t]) hp2
              have s72 := s714.trans (s21.trans s22)
              have dD2 : Dp K (upd H21 p2 (HO.tup [V.ref D2, V.ref t])) (.ref p2) (dRes ((ruledR d l ru).map (shR M)) (costsOf d l (ruledR d l ru))) :=
                .tup (SqT.of upd_same) (.cons (.lst (SqL.of (s22 _ _ eY2)) (all2_dpa (fun v a h => zrow_dp (zrow_same s22 h)) hys2)) (.cons (dp_tints_of (SqT.of (s72 _ _ et))) .nil))
              have hT22 := hT14.ext (s21.trans s22)
              have sG22 := sG14.trans (s21.trans s22)
              revert s72 dD2 hT22 sG22
              generalize upd H21 p2 (HO.tup [V.ref D2, V.ref t]) = H22
              intro s72 dD2 hT22 sG22
              show gName 8 (V.ref p2) [some (.ref a), some (.ref r), some (.int (0 + (i0 : Int))), some (.ref pd), some (.ref Z), some (.int L), some (.int M), some (.str (ruleS ru)), some (.ref p1), some (.ref c), some (.ref t), v11, v12, v13, v14, v15, v16] _ _
              refine ⟨_, rfl, _, rfl, _, rfl, _, rfl, _, rfl, .ref pd, .ref Z, d, l, M, M, false, rfl, dp_same sG22 fD, dp_same sG22 fA, g, by omega, fun H23 pm2 xm2 sm2 pm02 epm2 hdm2 => ?_⟩
              have sG23 := sG22.trans sm2
              have hT23 := hT22.ext sm2
              have gm2 : GoodAsks d (movedA d M M false l) := movedA_good g ga (by omega) (fun a ha => by have := h399 a ha; omega) rfl rfl
              obtain ⟨er2, ec2⟩ := moved_res (d := d) (d' := d) (l := l) (L := M) (M := M) (m := false) (ru := ru) rfl rfl rfl (⟨0, by rw [Int.mul_zero, Int.add_zero]⟩) (.inl rfl) (by omega) ga
              refine ⟨_, rfl, .ref pd, .ref pm2, d, movedA d M M false l, ru, rfl, dp_same sG23 fD, .lst (SqL.of epm2) (dpa_same fr_sub hdm2), g, gm2, hT23, fun H24 p24 c24 t24 xs24 hT24 res24 => ?_⟩
              rw [ec2, er2] at res24
              have s724 : Same (ntH H7) H24 := (ntH_idem (s72.trans sm2)).trans res24.same
              have sG24 : Same (ntH Hq) H24 := (ntH_idem sG23).trans res24.same
              refine ⟨_, rfl, _, _, res_dp res24, dp_same res24.same (dp_nt (dp_same sm2 dD2)), shaped_res _ _, shaped_res _ _, _, rfl, ?_⟩
              rw [SeqAt.eqv_refl _ (SeqAt.canLay_of_shaped (shaped_res _ _))]
              refine iteF ?_
              refine ⟨_, rfl, (by show 3 ≤ sizeLine; decide), fun q1 hq1 => ⟨q1, _, rfl, .inr (SqT.of upd_same), rfl, by decide +kernel, _, rfl, ?_⟩⟩
              have e3 : inV (.str (ruleS ru)) [V.str "first", V.str "near", V.str "soon"] = plainR ru := by cases ru <;> decide +kernel
              have s25 := same_new (o := HO.tup [V.str "first", V.str "near", V.str "soon"]) hq1
              have sG25 := sG24.trans s25
              have s725 := s724.trans s25
              have hT25 := hT24.ext s25
              revert sG25 s725 hT25
              show Same (ntH Hq) (upd H24 q1 (HO.tup [V.str "first", V.str "near", V.str "soon"])) → Same (ntH H7) (upd H24 q1 (HO.tup [V.str "first", V.str "near", V.str "soon"])) → Tabs T (upd H24 q1 (HO.tup [V.str "first", V.str "near", V.str "soon"])) → if inV (.str (ruleS ru)) [V.str "first", V.str "near", V.str "soon"] = true then _ else _
              rw [e3]
              generalize upd H24 q1 (HO.tup [V.str "first", V.str "near", V.str "soon"]) = H25
              intro sG25 s725 hT25
              by_cases hp : plainR ru = true
              · rw [hp]
                refine iteT ?_
                refine ⟨_, rfl, 3, rfl, pd, _, rfl, SqT.of (sG25 _ _ fPD), (fun z => absurd z.2 (by show ¬ ((3 : Nat) = 4); decide)), fun o1 ho1 => ?_⟩
                have s26 := same_new (o := HO.tup (cutV ([d.tr, d.sc, d.pa, d.he].map V.int) none (some 3))) ho1
                have ed26 := (sG25.trans s26) _ _ fPD
                refine ⟨_, rfl, pd, _, 0, _, rfl, rfl, SqT.of ed26, atI_nat (j := 0) rfl, _, _, rfl, rfl, _, rfl, pd, _, 3, _, rfl, rfl, SqT.of ed26, atI_nat (j := 3) rfl, _, _, rfl, rfl, (by show 1 ≤ sizeLine; decide), fun o2 ho2 => ?_⟩
                have s27 := same_new (o := HO.tup [V.int (d.tr - 1 - d.he)]) ho2
                refine ⟨o1, o2, [.int d.tr, .int d.sc, .int d.pa], [.int (d.tr - 1 - d.he)], rfl, rfl, SqT.of (s27 _ _ upd_same), SqT.of upd_same, by simp, by show 3 + 1 ≤ sizeLine; decide, (fun z => absurd z (by simp)), fun _ o3 ho3 => ?_⟩
                have s28 := same_new (o := HO.tup ([V.int d.tr, V.int d.sc, V.int d.pa] ++ [V.int (d.tr - 1 - d.he)])) ho3
                have sF := s26.trans (s27.trans s28)
                have eO := (upd_same (H := upd (upd H25 o1 (HO.tup (cutV ([d.tr, d.sc, d.pa, d.he].map V.int) none (some 3)))) o2 (HO.tup [V.int (d.tr - 1 - d.he)])) (a := o3) (o := HO.tup ([V.int d.tr, V.int d.sc, V.int d.pa] ++ [V.int (d.tr - 1 - d.he)])))
                revert sF eO
                generalize upd (upd (upd H25 o1 (HO.tup (cutV ([d.tr, d.sc, d.pa, d.he].map V.int) none (some 3)))) o2 (HO.tup [V.int (d.tr - 1 - d.he)])) o3 (HO.tup ([V.int d.tr, V.int d.sc, V.int d.pa] ++ [V.int (d.tr - 1 - d.he)])) = H28
                intro sF eO
                have g' : GoodDisk ⟨d.tr, d.sc, d.pa, d.tr - 1 - d.he⟩ := ⟨g.t1, g.t2, g.s1, g.s2, g.p1, g.p2, by have := g.h2; show 0 ≤ d.tr - 1 - d.he; omega, by have := g.h1; show d.tr - 1 - d.he < d.tr; omega⟩
                have dO : Dp K H28 (.ref o3) (dDisk ⟨d.tr, d.sc, d.pa, d.tr - 1 - d.he⟩) := dp_tints_of (SqT.of eO)
                have sG28 := sG25.trans sF
                have hT28 := hT25.ext sF
                have s728 := s725.trans sF
                show gName 11 (V.ref o3) [some (.ref a), some (.ref r), some (.int (0 + (i0 : Int))), some (.ref pd), some (.ref Z), some (.int L), some (.int M), some (.str (ruleS ru)), some (.ref p2), some (.ref c), some (.ref t), v11, v12, v13, v14, v15, v16] _ _
                refine ⟨_, rfl, _, rfl, _, rfl, .ref pd, .ref Z, d, l, 0, 0, true, rfl, dp_same sG28 fD, dp_same sG28 fA, g, by omega, fun H33 pm3 xm3 sm3 pm03 epm3 hdm3 => ?_⟩
                have sG33 := sG28.trans sm3
                have hT33 := hT28.ext sm3
                have gm3 : GoodAsks ⟨d.tr, d.sc, d.pa, d.tr - 1 - d.he⟩ (movedA d 0 0 true l) := movedA_good g ga (Int.le_refl 0) (fun a ha => by have := h399 a ha; omega) rfl rfl
                obtain ⟨er3, ec3⟩ := moved_res (d := d) (d' := ⟨d.tr, d.sc, d.pa, d.tr - 1 - d.he⟩) (l := l) (L := 0) (M := 0) (m := true) (ru := ru) rfl rfl rfl ⟨0, by rw [Int.mul_zero, Int.add_zero]⟩ (.inr hp) (by omega) ga
                refine ⟨_, rfl, .ref o3, .ref pm3, ⟨d.tr, d.sc, d.pa, d.tr - 1 - d.he⟩, movedA d 0 0 true l, ru, rfl, dp_same sm3 dO, .lst (SqL.of epm3) (dpa_same fr_sub hdm3), g', gm3, hT33, fun H34 p34 c34 t34 xs34 hT34 res34 => ?_⟩
                rw [ec3, er3, sh_zero] at res34
                have s734 : Same (ntH H7) H34 := (ntH_idem (s728.trans sm3)).trans res34.same
                have sG34 : Same (ntH Hq) H34 := (ntH_idem sG33).trans res34.same
                refine ⟨_, rfl, _, rfl, (by show 2 ≤ sizeLine; decide), fun p3 hp3 => ?_⟩
                have s35 := same_new (o := HO.tup [V.ref c, V.ref t]) hp3
                have s735 := s734.trans s35
                refine ⟨_, _, dp_same s35 (res_dp res34), (show Dp K _ _ (dRes (ruledR d l ru) (costsOf d l (ruledR d l ru))) from .tup (SqT.of upd_same) (.cons (.lst (SqL.of (s735 _ _ ec)) (dpa_same s735 hrows7)) (.cons (dp_tints_of (SqT.of (s735 _ _ et))) .nil))), shaped_res _ _, shaped_res _ _, _, rfl, ?_⟩
                rw [SeqAt.eqv_refl _ (SeqAt.canLay_of_shaped (shaped_res _ _))]
                exact iteF ⟨sG34.trans s35, hT34.ext s35, _, _, _, _, _, _, _, _, _, _, rfl⟩
              · rw [Bool.not_eq_true] at hp
                rw [hp]
                exact iteF ⟨sG25, hT25, _, _, _, _, _, _, _, _, _, _, rfl⟩
        · rintro σ H6 ⟨sG, hT6, v7, v8, v9, v10, v11, v12, v13, v14, v15, v16, rfl⟩
          exact ⟨fR.but sG, hT6, _, _, _, _, _, _, _, _, _, _, _, _, _, _, _, rfl⟩
    · rintro σ H0 ⟨hR, hT, v2, v3, v4, v5, v6, v7, v8, v9, v10, v11, v12, v13, v14, v15, v16, rfl⟩
      exact q _
end
end Ag

namespace Ag
open PySem PySem.Spec PyProof.Rows L2 LamX NdefX
/-! ### from the head's facts -/
section
variable {P : Program} {w : World} {K : PySem.W.Frag} {mg : Str → Option Value} {base : Heap}
theorem fun_of {x q : Str} {st : Stmt} {f : Addr} {fd : FuncData} (h : FunD K x q (defArgs st) (defBody st) (defScope st) [] [] f fd) : Fun K x q st f fd := by
  obtain ⟨⟨oc, od, dV, kV, doc, pm, an, cdv, ct, osl, rfl, lk, hcd, hD, hK⟩, kp⟩ := h
  rcases hD with ⟨_, rfl⟩ | ⟨e, _⟩
  · exact ⟨⟨oc, od, kV, doc, pm, an, cdv, ct, osl, rfl, lk, hcd⟩, kp⟩
  · exact absurd rfl e
theorem funC_of {x q : Str} {st : Stmt} {p : Str × Option Str} {fd : FuncData} (h : FunD K x q (defArgs st) (defBody st) (defScope st) [] [] (He.fAd K p) fd) : FunC K x q st (He.fAd K p) fd (He.cT K p).1 := by
  obtain ⟨⟨oc, od, dV, kV, doc, pm, an, cdv, ct, osl, rfl, lk, hcd, hD, hK⟩, kp⟩ := h
  rcases hD with ⟨_, rfl⟩ | ⟨e, _⟩
  · obtain ⟨c, rfl⟩ := He.codeIn_ref hcd
    have e : (He.cT K p).1 = c := He.codeOf_eq lk rfl
    rw [e]
    exact ⟨⟨oc, od, kV, doc, pm, an, ct, osl, rfl, lk, hcd⟩, kp⟩
  · exact absurd rfl e
/-- a promise that asks for a list frozen serves where the list is tracked as one that may change -/
theorem fnOk_frozen {k : Nat} {f : Addr} {fd : FuncData} {ps : List Str} {sp sp' : Sp} (F : FnOk P w K mg base CX0 k f fd ps sp) (hlen : ∀ vs H Q E, sp' vs H Q E → vs.length = ps.length)
    (hs : ∀ vs H Q E, sp' vs H Q E → sp vs H Q E ∨ ∃ a ys, H a = some (.lst ys) ∧ ∀ o, sp vs (upd H a (.frz o (.lst ys))) Q E) : FnOk P w K mg base CX0 k f fd ps sp' := by
  refine ⟨hlen, fun A outer s H args us vs Q E hr e0 hb r h => ?_⟩
  rcases hs vs H Q E h with h | ⟨a, ys, ha, h⟩
  · exact F.run A outer s H args us vs Q E hr e0 hb r h
  · obtain ⟨hz, its, n, rv, ho⟩ := (show ObjOk P w H s.heap a (.lst ys) from e0.hok a _ ha)
    have ne : ∀ b, H b = none → b ≠ a := fun b e z => by rw [z, ha] at e; cases e
    have at_ : ∀ b, b ≠ a → upd H a (.frz { cls := .type "list", data := .seq its.toArray n } (.lst ys)) b = H b := fun b n => upd_ne n
    have own : ∀ b y, H b = some (.own y) → upd H a (.frz { cls := .type "list", data := .seq its.toArray n } (.lst ys)) b = some (.own y) := fun b y e => by
      rw [at_ b fun z => by rw [z, ha] at e; cases e]
      exact e
    have tup : ∀ b xs, H b = some (.tup xs) → upd H a (.frz { cls := .type "list", data := .seq its.toArray n } (.lst ys)) b = some (.tup xs) := fun b y e => by
      rw [at_ b fun z => by rw [z, ha] at e; cases e]
      exact e
    have hok : HOk P w (upd H a (.frz { cls := .type "list", data := .seq its.toArray n } (.lst ys))) s.heap := fun b o e => by
      by_cases z : b = a
      · subst z
        rw [upd_same] at e
        cases e
        exact ⟨ho, hz, its, n, rv, ho⟩
      · rw [at_ b z] at e
        exact (e0.hok b o e).stay (fun _ _ _ q => q) (fun c q => own c b q) tup
    have e1 : Env0 P w K mg base A outer s (upd H a (.frz { cls := .type "list", data := .seq its.toArray n } (.lst ys))) :=
      ⟨e0.frames, e0.mod, fun b o q => ⟨(e0.bs b o q).1, by rw [at_ b (ne b (e0.bs b o q).2)]; exact (e0.bs b o q).2⟩, e0.bsz, e0.funs, fun b hb => by rw [at_ b (ne b (e0.frf b hb))]; exact e0.frf b hb, hok, e0.bare⟩
    refine codeAny_mono (F.run A outer s _ args us vs Q E hr e1 hb r (h _)) fun r s' hq => ?_
    cases r with
    | error e => exact hq
    | ok fl =>
      cases fl with
      | next => exact hq
      | brk => exact hq
      | cont => exact hq
      | ret u =>
        obtain ⟨v, H', os, bare, un, hok', rv', q⟩ := hq
        refine ⟨v, H', os, bare, ⟨fun b o e n nf nx => un.keep b o e (by rw [at_ b (ne b n)]; exact n) nf nx, fun b o e n nf nx => un.slot b o e (by rw [at_ b (ne b n)]; exact n) nf nx, fun b o e n nx => un.free b o e (by rw [at_ b (ne b n)]; exact n) nx, un.there, fun b xs e => un.tups b xs (tup b xs e), fun b o u e => un.frzs b o u ?_, fun b ps e => un.tbls b ps ?_⟩, hok', rv', q⟩
        · rw [at_ b fun z => by rw [z, ha] at e; cases e]
          exact e
        · rw [at_ b fun z => by rw [z, ha] at e; cases e]
          exact e
end
end Ag

set_option maxHeartbeats 0
namespace Ag
open PySem PySem.Spec PyProof.Rows L2 LamX NdefX
def d_need_disk : He.DefD := ⟨("need_disk", none), "need_disk", "need_disk", defArgs s_need_disk, defBody s_need_disk, defScope s_need_disk, [], []⟩
def d_need_asks : He.DefD := ⟨("need_asks", none), "need_asks", "need_asks", defArgs s_need_asks, defBody s_need_asks, defScope s_need_asks, [], []⟩
def d_served : He.DefD := ⟨("served", none), "served", "served", defArgs s_served, defBody s_served, defScope s_served, [], []⟩
def d_costs_of : He.DefD := ⟨("costs_of", none), "costs_of", "costs_of", defArgs s_costs_of, defBody s_costs_of, defScope s_costs_of, [], []⟩
def d_need_rule : He.DefD := ⟨("need_rule", none), "need_rule", "need_rule", defArgs s_need_rule, defBody s_need_rule, defScope s_need_rule, [], []⟩
def d_rows_by : He.DefD := ⟨("rows_by", none), "rows_by", "rows_by", defArgs s_rows_by, defBody s_rows_by, defScope s_rows_by, [], []⟩
def d_by_rule : He.DefD := ⟨("by_rule", none), "by_rule", "by_rule", defArgs s_by_rule, defBody s_by_rule, defScope s_by_rule, [], []⟩
def d__law_taken : He.DefD := ⟨("_law_taken", none), "_law_taken", "_law_taken", defArgs s_l_taken, defBody s_l_taken, defScope s_l_taken, [], []⟩
def d__law_disk : He.DefD := ⟨("_law_disk", none), "_law_disk", "_law_disk", defArgs s_l_disk, defBody s_l_disk, defScope s_l_disk, [], []⟩
def d__law_asks : He.DefD := ⟨("_law_asks", none), "_law_asks", "_law_asks", defArgs s_l_asks, defBody s_l_asks, defScope s_l_asks, [], []⟩
def d__law_moved : He.DefD := ⟨("_law_moved", none), "_law_moved", "_law_moved", defArgs s_l_moved, defBody s_l_moved, defScope s_l_moved, [], []⟩
def d_law : He.DefD := ⟨("law", none), "law", "law", defArgs s_law, defBody s_law, defScope s_law, [], []⟩
def d_A___init__ : He.DefD := ⟨("Arm", some "__init__"), "__init__", "Arm.__init__", defArgs s_init, defBody s_init, defScope s_init, [], []⟩
def d_A_waiting : He.DefD := ⟨("Arm", some "waiting"), "waiting", "Arm.waiting", defArgs s_waiting, defBody s_waiting, defScope s_waiting, [], []⟩
def d_A_far : He.DefD := ⟨("Arm", some "far"), "far", "Arm.far", defArgs s_far, defBody s_far, defScope s_far, [], []⟩
def d_A_first_of : He.DefD := ⟨("Arm", some "first_of"), "first_of", "Arm.first_of", defArgs s_first_of, defBody s_first_of, defScope s_first_of, [], []⟩
def d_A_swept : He.DefD := ⟨("Arm", some "swept"), "swept", "Arm.swept", defArgs s_swept, defBody s_swept, defScope s_swept, [], []⟩
def d_A_looped : He.DefD := ⟨("Arm", some "looped"), "looped", "Arm.looped", defArgs s_looped, defBody s_looped, defScope s_looped, [], []⟩
def d_A_chosen : He.DefD := ⟨("Arm", some "chosen"), "chosen", "Arm.chosen", defArgs s_chosen, defBody s_chosen, defScope s_chosen, [], []⟩
def d_A_serve : He.DefD := ⟨("Arm", some "serve"), "serve", "Arm.serve", defArgs s_serve, defBody s_serve, defScope s_serve, [], []⟩
def fnL : List He.DefD := [d_need_disk, d_need_asks, d_served, d_costs_of, d_need_rule, d_rows_by, d_by_rule, d__law_taken, d__law_disk, d__law_asks, d__law_moved, d_law, d_A___init__, d_A_waiting, d_A_far, d_A_first_of, d_A_swept, d_A_looped, d_A_chosen, d_A_serve]
def faL : List He.Fa := [.glo "need_disk", .glo "need_asks", .glo "served", .glo "costs_of", .glo "need_rule", .glo "rows_by", .glo "by_rule", .glo "_law_taken", .glo "_law_disk", .glo "_law_asks", .glo "_law_moved", .glo "law", .glo "Arm", .glo "RULES", .cls "Arm", .mkr "Arm", .free "abs", .free "int", .free "len", .free "list", .free "max", .free "min", .free "range", .free "sum", .int "MOST_ASKS" 40, .int "MOST_COME" 999, .int "MOST_PACE" 4, .int "MOST_SECTORS" 16, .int "MOST_TRACKS" 64, .meth "Arm" "waiting", .meth "Arm" "far", .meth "Arm" "first_of", .meth "Arm" "swept", .meth "Arm" "looped", .meth "Arm" "chosen", .meth "Arm" "serve", .noat "Arm" "disk", .noat "Arm" "asks", .noat "Arm" "now", .noat "Arm" "here", .noat "Arm" "up", .noat "Arm" "left"]
def tfL : List He.Defn := [("Arm", some "first_of"), ("Arm", some "swept"), ("Arm", some "looped"), ("Arm", some "chosen")]
abbrev RR : PySem.W.OpenRow := PySem.W.OpenLaw.row PySem.Challenge.rw_armorder_k07_whole_later_turned_and_mirr
def rulesD : List He.Dv := [.str "first", .str "near", .str "soon", .str "sweep", .str "loop"]
def exL : PySem.W.Frag → Bool := fun K => He.tupB K "RULES" rulesD && decide ((tfL.map fun p => (He.cT K p).2).Nodup)
abbrev hk : PySem.W.Hook := He.hookX 6 faL fnL [] tfL exL
def ob (s : PySem.W.SharedT) : He.AlX := He.obsX 6 faL fnL [] tfL exL (HandSHeadRun.getT s)
theorem ob_eq (s : PySem.W.SharedT) : ob s = hk.obs s.abs := He.obsX_eq (HandSHeadRun.getT_eq s)
def looseL : List PySem.Str := (["__name__", "ArmError", "BadDisk", "BadAsk", "BadRule", "MOST_TRACKS", "MOST_SECTORS", "MOST_PACE", "MOST_ASKS", "MOST_COME", "need_disk", "need_asks", "served", "costs_of", "RULES", "need_rule", "Arm", "rows_by", "by_rule", "_law_taken", "_law_disk", "_law_asks", "_law_moved"] : List PySem.Str)
theorem run (w : World) : HandSHeadRun.RunEq RR (PySem.W.view RR.prog [27]) hk ob 3000 looseL w := by
  intro os
  kernel_rfl
theorem one_of {P : Addr} {q : Str} : ∀ {T : List (Addr × Str)}, (T.map (·.1)).Nodup → (P, q) ∈ T → ∀ p ∈ T, p.1 = P → p.2 = q
  | [], _, h => by cases h
  | t :: T, nd, h => fun p hp e => by
    rw [List.map_cons, List.nodup_cons] at nd
    rcases List.mem_cons.mp h with h | h
    · rcases List.mem_cons.mp hp with z | hp
      · rw [z, ← h]
      · exact absurd (List.mem_map.mpr ⟨p, hp, e.trans (by rw [← h])⟩) nd.1
    · rcases List.mem_cons.mp hp with z | hp
      · exact absurd (List.mem_map.mpr ⟨(P, q), h, by rw [← z]; exact e.symm⟩) nd.1
      · exact one_of nd.2 h p hp e
def tabL (K : PySem.W.Frag) : List (Addr × Str) := [((He.cT K ("Arm", some "first_of")).2, lq "Arm.first_of"), ((He.cT K ("Arm", some "swept")).2, lq "Arm.swept"), ((He.cT K ("Arm", some "looped")).2, lq "Arm.looped"), ((He.cT K ("Arm", some "chosen")).2, lq "Arm.chosen")]
def sp_lawT (K : PySem.W.Frag) (T : List (Addr × Str)) : Sp := fun vs H Q _ => ∃ (a : Addr) (ns : List Int), vs = [.ref a] ∧ SqL K H a (ns.map V.int) ∧ Tabs T H ∧ ∀ H', Q (.bl true) H'
theorem facts {w : World} {K : PySem.W.Frag} {h : Heap} {mg : Str → Option Value} {f : Addr} (X : K.In h) (G : h.Ns mainGlobals mg) (hfa : mg ("law" : Str) = some (.ref f)) (c : He.SaysX faL fnL [] tfL exL w h K) : LawAtS PySem.Challenge.rw_armorder_k07_whole_later_turned_and_mirr w K CX0 11 63 "_law_script" mg f h := by
  have cD : He.SaysD faL fnL K := congrArg Prod.fst c.t
  have ex2 : (He.tupB K "RULES" rulesD && decide ((tfL.map fun p => (He.cT K p).2).Nodup)) = true := c.more
  obtain ⟨hR0, hN0⟩ := He.ba ex2
  have hN := of_decide_eq_true hN0
  have hR : ∀ H, SqT K H (He.ga K "RULES") rulesV := fun H => He.tupB_ok hR0 H
  have e := hfa.symm.trans (He.glo_ok X G (cD.fact 11 (f := .glo "law") rfl))
  cases e
  obtain ⟨fd_need_disk, D_need_disk⟩ := cD.def_ 0 (d := d_need_disk) rfl
  have F_need_disk := fun_of (st := s_need_disk) D_need_disk
  have b_need_disk := F_need_disk.binds (ps := ["disk"]) fun _ _ _ _ _ _ us hl => match us, hl with | [_], _ => rfl
  have C_need_disk : Cal K mg "need_disk" (He.fAd K ("need_disk", none)) _ ["disk"] := ⟨He.glo_ok X G (cD.fact 0 (f := .glo "need_disk") rfl), F_need_disk.kp, b_need_disk⟩
  obtain ⟨fd_need_asks, D_need_asks⟩ := cD.def_ 1 (d := d_need_asks) rfl
  have F_need_asks := fun_of (st := s_need_asks) D_need_asks
  have b_need_asks := F_need_asks.binds (ps := ["disk", "asks"]) fun _ _ _ _ _ _ us hl => match us, hl with | [_, _], _ => rfl
  have C_need_asks : Cal K mg "need_asks" (He.fAd K ("need_asks", none)) _ ["disk", "asks"] := ⟨He.glo_ok X G (cD.fact 1 (f := .glo "need_asks") rfl), F_need_asks.kp, b_need_asks⟩
  obtain ⟨fd_served, D_served⟩ := cD.def_ 2 (d := d_served) rfl
  have F_served := fun_of (st := s_served) D_served
  have b_served := F_served.binds (ps := ["disk", "now", "here", "ask"]) fun _ _ _ _ _ _ us hl => match us, hl with | [_, _, _, _], _ => rfl
  have C_served : Cal K mg "served" (He.fAd K ("served", none)) _ ["disk", "now", "here", "ask"] := ⟨He.glo_ok X G (cD.fact 2 (f := .glo "served") rfl), F_served.kp, b_served⟩
  obtain ⟨fd_costs_of, D_costs_of⟩ := cD.def_ 3 (d := d_costs_of) rfl
  have F_costs_of := fun_of (st := s_costs_of) D_costs_of
  have b_costs_of := F_costs_of.binds (ps := ["disk", "asks", "rows"]) fun _ _ _ _ _ _ us hl => match us, hl with | [_, _, _], _ => rfl
  have C_costs_of : Cal K mg "costs_of" (He.fAd K ("costs_of", none)) _ ["disk", "asks", "rows"] := ⟨He.glo_ok X G (cD.fact 3 (f := .glo "costs_of") rfl), F_costs_of.kp, b_costs_of⟩
  obtain ⟨fd_need_rule, D_need_rule⟩ := cD.def_ 4 (d := d_need_rule) rfl
  have F_need_rule := fun_of (st := s_need_rule) D_need_rule
  have b_need_rule := F_need_rule.binds (ps := ["rule"]) fun _ _ _ _ _ _ us hl => match us, hl with | [_], _ => rfl
  have C_need_rule : Cal K mg "need_rule" (He.fAd K ("need_rule", none)) _ ["rule"] := ⟨He.glo_ok X G (cD.fact 4 (f := .glo "need_rule") rfl), F_need_rule.kp, b_need_rule⟩
  obtain ⟨fd_rows_by, D_rows_by⟩ := cD.def_ 5 (d := d_rows_by) rfl
  have F_rows_by := fun_of (st := s_rows_by) D_rows_by
  have b_rows_by := F_rows_by.binds (ps := ["disk", "asks", "rule"]) fun _ _ _ _ _ _ us hl => match us, hl with | [_, _, _], _ => rfl
  have C_rows_by : Cal K mg "rows_by" (He.fAd K ("rows_by", none)) _ ["disk", "asks", "rule"] := ⟨He.glo_ok X G (cD.fact 5 (f := .glo "rows_by") rfl), F_rows_by.kp, b_rows_by⟩
  obtain ⟨fd_by_rule, D_by_rule⟩ := cD.def_ 6 (d := d_by_rule) rfl
  have F_by_rule := fun_of (st := s_by_rule) D_by_rule
  have b_by_rule := F_by_rule.binds (ps := ["disk", "asks", "rule"]) fun _ _ _ _ _ _ us hl => match us, hl with | [_, _, _], _ => rfl
  have C_by_rule : Cal K mg "by_rule" (He.fAd K ("by_rule", none)) _ ["disk", "asks", "rule"] := ⟨He.glo_ok X G (cD.fact 6 (f := .glo "by_rule") rfl), F_by_rule.kp, b_by_rule⟩
  obtain ⟨fd__law_taken, D__law_taken⟩ := cD.def_ 7 (d := d__law_taken) rfl
  have F__law_taken := fun_of (st := s_l_taken) D__law_taken
  have b__law_taken := F__law_taken.binds (ps := ["_law_row", "_law_many"]) fun _ _ _ _ _ _ us hl => match us, hl with | [_, _], _ => rfl
  have C__law_taken : Cal K mg "_law_taken" (He.fAd K ("_law_taken", none)) _ ["_law_row", "_law_many"] := ⟨He.glo_ok X G (cD.fact 7 (f := .glo "_law_taken") rfl), F__law_taken.kp, b__law_taken⟩
  obtain ⟨fd__law_disk, D__law_disk⟩ := cD.def_ 8 (d := d__law_disk) rfl
  have F__law_disk := fun_of (st := s_l_disk) D__law_disk
  have b__law_disk := F__law_disk.binds (ps := ["_law_row"]) fun _ _ _ _ _ _ us hl => match us, hl with | [_], _ => rfl
  have C__law_disk : Cal K mg "_law_disk" (He.fAd K ("_law_disk", none)) _ ["_law_row"] := ⟨He.glo_ok X G (cD.fact 8 (f := .glo "_law_disk") rfl), F__law_disk.kp, b__law_disk⟩
  obtain ⟨fd__law_asks, D__law_asks⟩ := cD.def_ 9 (d := d__law_asks) rfl
  have F__law_asks := fun_of (st := s_l_asks) D__law_asks
  have b__law_asks := F__law_asks.binds (ps := ["_law_row", "_law_disk_here", "_law_most"]) fun _ _ _ _ _ _ us hl => match us, hl with | [_, _, _], _ => rfl
  have C__law_asks : Cal K mg "_law_asks" (He.fAd K ("_law_asks", none)) _ ["_law_row", "_law_disk_here", "_law_most"] := ⟨He.glo_ok X G (cD.fact 9 (f := .glo "_law_asks") rfl), F__law_asks.kp, b__law_asks⟩
  obtain ⟨fd__law_moved, D__law_moved⟩ := cD.def_ 10 (d := d__law_moved) rfl
  have F__law_moved := fun_of (st := s_l_moved) D__law_moved
  have b__law_moved := F__law_moved.binds (ps := ["_law_disk_here", "_law_asks_here", "_law_later", "_law_more", "_law_turned"]) fun _ _ _ _ _ _ us hl => match us, hl with | [_, _, _, _, _], _ => rfl
  have C__law_moved : Cal K mg "_law_moved" (He.fAd K ("_law_moved", none)) _ ["_law_disk_here", "_law_asks_here", "_law_later", "_law_more", "_law_turned"] := ⟨He.glo_ok X G (cD.fact 10 (f := .glo "_law_moved") rfl), F__law_moved.kp, b__law_moved⟩
  obtain ⟨fd_law, D_law⟩ := cD.def_ 11 (d := d_law) rfl
  have F_law := fun_of (st := s_law) D_law
  obtain ⟨fd_A___init__, D_A___init__⟩ := cD.def_ 12 (d := d_A___init__) rfl
  have F_A___init__ := fun_of (st := s_init) D_A___init__
  have b_A___init__ := F_A___init__.binds (ps := ["self", "disk", "asks"]) fun _ _ _ _ _ _ us hl => match us, hl with | [_, _, _], _ => rfl
  obtain ⟨fd_A_waiting, D_A_waiting⟩ := cD.def_ 13 (d := d_A_waiting) rfl
  have F_A_waiting := fun_of (st := s_waiting) D_A_waiting
  have b_A_waiting := F_A_waiting.binds (ps := ["self"]) fun _ _ _ _ _ _ us hl => match us, hl with | [_], _ => rfl
  obtain ⟨fd_A_far, D_A_far⟩ := cD.def_ 14 (d := d_A_far) rfl
  have F_A_far := fun_of (st := s_far) D_A_far
  have b_A_far := F_A_far.binds (ps := ["self", "number"]) fun _ _ _ _ _ _ us hl => match us, hl with | [_, _], _ => rfl
  obtain ⟨fd_A_first_of, D_A_first_of⟩ := cD.def_ 15 (d := d_A_first_of) rfl
  have F_A_first_of := funC_of (st := s_first_of) D_A_first_of
  have b_A_first_of := F_A_first_of.binds (ps := ["self", "some", "key"]) fun _ _ _ _ _ _ us hl => match us, hl with | [_, _, _], _ => rfl
  obtain ⟨fd_A_swept, D_A_swept⟩ := cD.def_ 16 (d := d_A_swept) rfl
  have F_A_swept := funC_of (st := s_swept) D_A_swept
  have b_A_swept := F_A_swept.binds (ps := ["self", "some"]) fun _ _ _ _ _ _ us hl => match us, hl with | [_, _], _ => rfl
  obtain ⟨fd_A_looped, D_A_looped⟩ := cD.def_ 17 (d := d_A_looped) rfl
  have F_A_looped := funC_of (st := s_looped) D_A_looped
  have b_A_looped := F_A_looped.binds (ps := ["self", "some"]) fun _ _ _ _ _ _ us hl => match us, hl with | [_, _], _ => rfl
  obtain ⟨fd_A_chosen, D_A_chosen⟩ := cD.def_ 18 (d := d_A_chosen) rfl
  have F_A_chosen := funC_of (st := s_chosen) D_A_chosen
  have b_A_chosen := F_A_chosen.binds (ps := ["self", "rule", "some"]) fun _ _ _ _ _ _ us hl => match us, hl with | [_, _, _], _ => rfl
  obtain ⟨fd_A_serve, D_A_serve⟩ := cD.def_ 19 (d := d_A_serve) rfl
  have F_A_serve := fun_of (st := s_serve) D_A_serve
  have b_A_serve := F_A_serve.binds (ps := ["self", "rule"]) fun _ _ _ _ _ _ us hl => match us, hl with | [_, _], _ => rfl
  have z_abs := He.free_ok X G (cD.fact 16 (f := .free "abs") rfl)
  have z_int := He.free_ok X G (cD.fact 17 (f := .free "int") rfl)
  have z_len := He.free_ok X G (cD.fact 18 (f := .free "len") rfl)
  have z_list := He.free_ok X G (cD.fact 19 (f := .free "list") rfl)
  have z_max := He.free_ok X G (cD.fact 20 (f := .free "max") rfl)
  have z_min := He.free_ok X G (cD.fact 21 (f := .free "min") rfl)
  have z_range := He.free_ok X G (cD.fact 22 (f := .free "range") rfl)
  have z_sum := He.free_ok X G (cD.fact 23 (f := .free "sum") rfl)
  obtain ⟨t_MOST_ASKS, c_MOST_ASKS⟩ := He.int_ok X G (cD.fact 24 (f := .int "MOST_ASKS" 40) rfl)
  obtain ⟨t_MOST_COME, c_MOST_COME⟩ := He.int_ok X G (cD.fact 25 (f := .int "MOST_COME" 999) rfl)
  obtain ⟨t_MOST_PACE, c_MOST_PACE⟩ := He.int_ok X G (cD.fact 26 (f := .int "MOST_PACE" 4) rfl)
  obtain ⟨t_MOST_SECTORS, c_MOST_SECTORS⟩ := He.int_ok X G (cD.fact 27 (f := .int "MOST_SECTORS" 16) rfl)
  obtain ⟨t_MOST_TRACKS, c_MOST_TRACKS⟩ := He.int_ok X G (cD.fact 28 (f := .int "MOST_TRACKS" 64) rfl)
  have m_RULES := He.glo_ok X G (cD.fact 13 (f := .glo "RULES") rfl)
  have m_Arm := He.glo_ok X G (cD.fact 12 (f := .glo "Arm") rfl)
  have AC : ArmC K (He.ga K "Arm") := ⟨He.eqO_ok (cD.fact 12 (f := .glo "Arm") rfl), He.cls_ok (cD.fact 14 (f := .cls "Arm") rfl), He.noat_ok (cD.fact 36 (f := .noat "Arm" "disk") rfl), He.noat_ok (cD.fact 37 (f := .noat "Arm" "asks") rfl), He.noat_ok (cD.fact 38 (f := .noat "Arm" "now") rfl), He.noat_ok (cD.fact 39 (f := .noat "Arm" "here") rfl), He.noat_ok (cD.fact 40 (f := .noat "Arm" "up") rfl), He.noat_ok (cD.fact 41 (f := .noat "Arm" "left") rfl)⟩
  have hArm : ∀ C, ArmC K C → C = He.ga K "Arm" := fun C hC => by
    have e := hC.glo.symm.trans AC.glo
    cases e
    rfl
  have MK := He.mkr_ok (cD.fact 15 (f := .mkr "Arm") rfl)
  have M_waiting0 : ∀ C, ArmC K C → Mt K C "waiting" (He.fAd K ("Arm", some "waiting")) fd_A_waiting ["self"] := fun C hC => by
    have e := hArm C hC
    subst e
    exact ⟨He.meth_ok (cD.fact 29 (f := .meth "Arm" "waiting") rfl), b_A_waiting⟩
  have M_far0 : ∀ C, ArmC K C → Mt K C "far" (He.fAd K ("Arm", some "far")) fd_A_far ["self", "number"] := fun C hC => by
    have e := hArm C hC
    subst e
    exact ⟨He.meth_ok (cD.fact 30 (f := .meth "Arm" "far") rfl), b_A_far⟩
  have M_first_of0 : ∀ C, ArmC K C → Mt K C "first_of" (He.fAd K ("Arm", some "first_of")) fd_A_first_of ["self", "some", "key"] := fun C hC => by
    have e := hArm C hC
    subst e
    exact ⟨He.meth_ok (cD.fact 31 (f := .meth "Arm" "first_of") rfl), b_A_first_of⟩
  have M_swept0 : ∀ C, ArmC K C → Mt K C "swept" (He.fAd K ("Arm", some "swept")) fd_A_swept ["self", "some"] := fun C hC => by
    have e := hArm C hC
    subst e
    exact ⟨He.meth_ok (cD.fact 32 (f := .meth "Arm" "swept") rfl), b_A_swept⟩
  have M_looped0 : ∀ C, ArmC K C → Mt K C "looped" (He.fAd K ("Arm", some "looped")) fd_A_looped ["self", "some"] := fun C hC => by
    have e := hArm C hC
    subst e
    exact ⟨He.meth_ok (cD.fact 33 (f := .meth "Arm" "looped") rfl), b_A_looped⟩
  have M_chosen0 : ∀ C, ArmC K C → Mt K C "chosen" (He.fAd K ("Arm", some "chosen")) fd_A_chosen ["self", "rule", "some"] := fun C hC => by
    have e := hArm C hC
    subst e
    exact ⟨He.meth_ok (cD.fact 34 (f := .meth "Arm" "chosen") rfl), b_A_chosen⟩
  have M_serve0 : ∀ C, ArmC K C → Mt K C "serve" (He.fAd K ("Arm", some "serve")) fd_A_serve ["self", "rule"] := fun C hC => by
    have e := hArm C hC
    subst e
    exact ⟨He.meth_ok (cD.fact 35 (f := .meth "Arm" "serve") rfl), b_A_serve⟩
  refine ⟨fd_law, tfL.map (He.cT K), sp_lawT K (tabL K), fun p hp => ?_, fun p hp => ?_, fun p hp => ?_, fun s u => ?_, fun H a ns hl hb hH hS => ⟨a, ns, rfl, hS, fun p hp => ?_, fun _ => rfl⟩, fun base KB NB hTB => ?_⟩
  · obtain ⟨q, hq, rfl⟩ := List.mem_map.mp hp
    exact c.empty q hq
  · obtain ⟨q, hq, rfl⟩ := List.mem_map.mp hp
    exact c.out q hq
  · obtain ⟨q, hq, rfl⟩ := List.mem_map.mp hp
    exact PySem.W.codeHd_of_K X (c.hd q hq)
  · exact FunD.bindsA (ps := ["_law_script"]) D_law (fun _ _ _ _ _ _ us hl => match us, hl with | [_], _ => rfl) s [u] rfl
  · have hq : ∃ q ∈ tfL, p.1 = (He.cT K q).2 := by
      unfold tabL at hp
      simp only [List.mem_cons, List.not_mem_nil, or_false] at hp
      rcases hp with rfl | rfl | rfl | rfl
      · exact ⟨("Arm", some "first_of"), by unfold tfL; simp, rfl⟩
      · exact ⟨("Arm", some "swept"), by unfold tfL; simp, rfl⟩
      · exact ⟨("Arm", some "looped"), by unfold tfL; simp, rfl⟩
      · exact ⟨("Arm", some "chosen"), by unfold tfL; simp, rfl⟩
    obtain ⟨q, hq, e⟩ := hq
    exact TabS.nil (by rw [e]; exact hH _ (List.mem_map.mpr ⟨q, hq, rfl⟩))
  · have nd : ((tabL K).map (·.1)).Nodup := hN
    have AT_first_of : ArmT base mg (tabL K) (He.cT K ("Arm", some "first_of")).1 (He.cT K ("Arm", some "first_of")).2 "Arm.first_of" := ⟨hTB _ (List.mem_map.mpr ⟨("Arm", some "first_of"), by unfold tfL; simp, rfl⟩), (.head _), one_of nd (.head _)⟩
    have AT_swept : ArmT base mg (tabL K) (He.cT K ("Arm", some "swept")).1 (He.cT K ("Arm", some "swept")).2 "Arm.swept" := ⟨hTB _ (List.mem_map.mpr ⟨("Arm", some "swept"), by unfold tfL; simp, rfl⟩), (.tail _ (.head _)), one_of nd (.tail _ (.head _))⟩
    have AT_looped : ArmT base mg (tabL K) (He.cT K ("Arm", some "looped")).1 (He.cT K ("Arm", some "looped")).2 "Arm.looped" := ⟨hTB _ (List.mem_map.mpr ⟨("Arm", some "looped"), by unfold tfL; simp, rfl⟩), (.tail _ (.tail _ (.head _))), one_of nd (.tail _ (.tail _ (.head _)))⟩
    have AT_chosen : ArmT base mg (tabL K) (He.cT K ("Arm", some "chosen")).1 (He.cT K ("Arm", some "chosen")).2 "Arm.chosen" := ⟨hTB _ (List.mem_map.mpr ⟨("Arm", some "chosen"), by unfold tfL; simp, rfl⟩), (.tail _ (.tail _ (.tail _ (.head _)))), one_of nd (.tail _ (.tail _ (.tail _ (.head _))))⟩
    have G_need_disk := ok_need_disk (P := (PySem.Challenge.rw_armorder_k07_whole_later_turned_and_mirr).prog) (w := w) (base := base) F_need_disk c_MOST_TRACKS c_MOST_SECTORS c_MOST_PACE
    have G_need_asks := ok_need_asks (P := (PySem.Challenge.rw_armorder_k07_whole_later_turned_and_mirr).prog) (w := w) (base := base) F_need_asks z_range z_len c_MOST_ASKS c_MOST_COME
    have G_served0 := fun base : Heap => ok_served (P := (PySem.Challenge.rw_armorder_k07_whole_later_turned_and_mirr).prog) (w := w) (mg := mg) (base := base) F_served z_max z_abs
    have G_served := G_served0 base
    have G_costs_of := ok_costs_of (P := (PySem.Challenge.rw_armorder_k07_whole_later_turned_and_mirr).prog) (w := w) (base := base) F_costs_of z_abs z_max z_sum
    have G_need_rule := ok_need_rule (P := (PySem.Challenge.rw_armorder_k07_whole_later_turned_and_mirr).prog) (w := w) (base := base) F_need_rule m_RULES hR
    have G_far0 := fun base : Heap => ok_far (P := (PySem.Challenge.rw_armorder_k07_whole_later_turned_and_mirr).prog) (w := w) (mg := mg) (base := base) F_A_far
    have G_swept := ok_swept (P := (PySem.Challenge.rw_armorder_k07_whole_later_turned_and_mirr).prog) (w := w) (base := base) (C := He.ga K "Arm") F_A_swept AT_swept F_A_first_of AT_first_of M_first_of0 G_far0 M_far0 z_min z_abs z_int
    have G_looped := ok_looped (P := (PySem.Challenge.rw_armorder_k07_whole_later_turned_and_mirr).prog) (w := w) (base := base) F_A_looped AT_looped F_A_first_of AT_first_of M_first_of0 G_far0 M_far0 z_min
    have G_chosen := ok_chosen (P := (PySem.Challenge.rw_armorder_k07_whole_later_turned_and_mirr).prog) (w := w) (base := base) F_A_chosen AT_chosen F_A_first_of AT_first_of M_first_of0 G_far0 M_far0 G_swept M_swept0 G_looped M_looped0 G_served0 C_served z_min z_abs
    have G_waiting := ok_waiting (P := (PySem.Challenge.rw_armorder_k07_whole_later_turned_and_mirr).prog) (w := w) (base := base) F_A_waiting z_min
    have G_serve := ok_serve (P := (PySem.Challenge.rw_armorder_k07_whole_later_turned_and_mirr).prog) (w := w) (base := base) F_A_serve G_waiting M_waiting0 G_chosen M_chosen0 G_served C_served
    have G_init := ok_init (P := (PySem.Challenge.rw_armorder_k07_whole_later_turned_and_mirr).prog) (w := w) (base := base) F_A___init__ z_list z_range z_len
    have G_rows_by := ok_rows_by (P := (PySem.Challenge.rw_armorder_k07_whole_later_turned_and_mirr).prog) (w := w) (base := base) F_rows_by AC MK m_Arm G_init b_A___init__ G_serve (M_serve0 _ AC) z_range z_len
    have G_by_rule := ok_by_rule (P := (PySem.Challenge.rw_armorder_k07_whole_later_turned_and_mirr).prog) (w := w) (base := base) F_by_rule G_need_disk C_need_disk G_need_asks C_need_asks G_need_rule C_need_rule G_rows_by C_rows_by G_costs_of C_costs_of
    have G__law_taken := ok_l_taken (P := (PySem.Challenge.rw_armorder_k07_whole_later_turned_and_mirr).prog) (w := w) (base := base) F__law_taken z_len
    have G__law_disk := ok_l_disk (P := (PySem.Challenge.rw_armorder_k07_whole_later_turned_and_mirr).prog) (w := w) (base := base) F__law_disk G__law_taken C__law_taken.m C__law_taken.k C__law_taken.b
    have G__law_asks := ok_l_asks (P := (PySem.Challenge.rw_armorder_k07_whole_later_turned_and_mirr).prog) (w := w) (base := base) F__law_asks G__law_taken C__law_taken.m C__law_taken.k C__law_taken.b z_min z_range
    have G__law_moved := ok_l_moved (P := (PySem.Challenge.rw_armorder_k07_whole_later_turned_and_mirr).prog) (w := w) (mg := mg) (base := base) F__law_moved
    refine fnOk_frozen (ok_law (T := tabL K) F_law G__law_taken C__law_taken G__law_disk C__law_disk G__law_asks C__law_asks G__law_moved C__law_moved G_by_rule C_by_rule z_range) (fun vs H Q E hh => ?_) (fun vs H Q E hh => ?_)
    · obtain ⟨a, ns, rfl, _⟩ := hh
      rfl
    · obtain ⟨a, ns, rfl, hS, hT, q⟩ := hh
      rcases hS with (hx | ⟨o, hx⟩) | hx
      · exact .inr ⟨a, _, hx, fun o => ⟨a, ns, rfl, .inl ⟨o, upd_same⟩, tabs_upd hT hx (by intro _ q; cases q) (by intro _ q; cases q), q⟩⟩
      · exact .inl ⟨a, ns, rfl, .inl ⟨o, hx⟩, hT, q⟩
      · exact .inl ⟨a, ns, rfl, .inr hx, hT, q⟩
end Ag
open PySem PySem.W PySem.Calls PyProof.Rows
theorem PySem.Challenge.cw_armorder_k07_whole_later_turned_and_mirr_holds : PySem.Challenge.rw_armorder_k07_whole_later_turned_and_mirr.Holds := by
  w_on; o_law
  refine HandSHeadRun.head_any (r := OpenLaw.row PySem.Challenge.rw_armorder_k07_whole_later_turned_and_mirr) (q := view (OpenLaw.row PySem.Challenge.rw_armorder_k07_whole_later_turned_and_mirr).prog [27]) (H := Ag.hk) (ob := Ag.ob) (M := 3000) (loose := Ag.looseL) (d := HandSHeadRun.topDef (OpenLaw.row PySem.Challenge.rw_armorder_k07_whole_later_turned_and_mirr).prog 27) (kwd := []) Ag.ob_eq
    (by kernel_rfl) (fun s => by kernel_rfl) Ag.run (by kernel_rfl) (by kernel_rfl) (by kernel_rfl) (by rfl) (by first | assumption | decide +kernel) (by decide +kernel) ⟨rfl, rfl, rfl, rfl, rfl, by decide +kernel⟩ ?hw ?hc
  case hw => w_witness2
  case hc =>
    refine LamX.walk_ofTsE (l := PySem.Challenge.rw_armorder_k07_whole_later_turned_and_mirr) (n := 63) (k := 11) (x := "_law_script") (CX := fun _ => L2.CX0) rfl (by decide) (by kernel_rfl) ⟨rfl, by decide, by decide⟩ ?F (fun _ _ _ _ _ z => z)
    intro w mg fa h Y G hmg0
    obtain ⟨K, KX, c⟩ := Y
    have hmg : mg ("law" : PySem.Str) = some (.ref fa) := by
      have e : (HandSHeadRun.topDef (OpenLaw.row PySem.Challenge.rw_armorder_k07_whole_later_turned_and_mirr).prog 27).name = ("law" : PySem.Str) := by kernel_rfl
      rw [← e]
      exact hmg0
    exact ⟨K, KX, Ag.facts KX G hmg c⟩

