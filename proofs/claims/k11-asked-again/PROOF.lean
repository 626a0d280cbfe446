import PyProof.Rows.All
import Wide.All
import OpenK.AllK
import Wide.FinOn
import HandS.ForMost
import HandS.SortKw
import HandS.SortInts
import HandS.Conv
import HandS.IsInst
import KE.DataMinMax
import KE.SortData
import HandS.Lambda
import HandS.Nested
import HandS.SetFor
import KE.DataMinKey
import HandS.Head0
import HandS.Head1
import HandS.Head2
import HandS.HeadEnd
import HandS.HeadHook1
import HandS.HeadHook2
import HandS.HeadHook3
import HandS.HeadHook4
import HandS.HeadWalk
import PySem.Challenge.RW_armorder_k11_asked_again
set_option Elab.async false
set_option linter.all false
set_option maxRecDepth 100000
set_option maxHeartbeats 4000000

namespace Ag
open PySem PySem.Spec PyProof.Rows L2

/-! ### heaps: what stands, a new thing, a changed thing -/
theorem same_new {H : Hp} {p : Addr} {o : HO} (h : H p = none) : Same H (upd H p o) := fun b x e => by
  rw [upd_ne (ne_of_none e h)]
  exact e
theorem same_upd {G H : Hp} {p : Addr} {o : HO} (s : Same G H) (h : G p = none) : Same G (upd H p o) := fun b x e => by
  rw [upd_ne (ne_of_none e h)]
  exact s b x e
theorem same_sqt {K : PySem.W.Frag} {H H' : Hp} {a : Addr} {xs : List V} (e : Same H H') (h : SqT K H a xs) : SqT K H' a xs := by
  rcases h with (h | ⟨o, h⟩) | h
  · exact .inl (.inl (e _ _ h))
  · exact .inl (.inr ⟨o, e _ _ h⟩)
  · exact .inr h
mutual
theorem dp_same {K : PySem.W.Frag} {H H' : Hp} (e : Same H H') : ∀ {d : PyData} {v : V}, Dp K H v d → Dp K H' v d
  | .none, _, h => by cases h; exact .non
  | .bool _, _, h => by cases h; exact .bl _
  | .int _, _, h => by cases h; exact .int _
  | .str _, _, h => by cases h; exact .str _
  | .list _, _, h => by
    cases h with
    | lst hs ha => exact .lst (e.seq hs) (dpa_same e ha)
  | .tuple _, _, h => by
    cases h with
    | tup hs ha => exact .tup (same_sqt e hs) (dpa_same e ha)
  | .dict _, _, h => by cases h
theorem dpa_same {K : PySem.W.Frag} {H H' : Hp} (e : Same H H') : ∀ {ds : List PyData} {vs : List V}, DpAll K H vs ds → DpAll K H' vs ds
  | [], _, h => by cases h; exact .nil
  | _ :: _, _, h => by
    cases h with
    | cons h1 h2 => exact .cons (dp_same e h1) (dpa_same e h2)
end
/-- the heap less what stands at r -/
def wo (H : Hp) (r : Addr) : Hp := fun b => if b = r then none else H b
theorem wo_at {H : Hp} {r : Addr} : wo H r r = none := by unfold wo; rw [if_pos rfl]
theorem wo_ne {H : Hp} {r b : Addr} (h : b ≠ r) : wo H r b = H b := by unfold wo; rw [if_neg h]
theorem wo_sub {H : Hp} {r : Addr} : Same (wo H r) H := fun b o e => by
  by_cases h : b = r
  · rw [h, wo_at] at e
    cases e
  · rw [wo_ne h] at e
    exact e
theorem wo_mono {H H' : Hp} {r : Addr} (s : Same H H') : Same (wo H r) (wo H' r) := fun b o e => by
  by_cases h : b = r
  · rw [h, wo_at] at e
    cases e
  · rw [wo_ne h] at e
    rw [wo_ne h]
    exact s _ _ e
theorem into_wo {G H : Hp} {r : Addr} (s : Same G H) (h : G r = none) : Same G (wo H r) := fun b o e => by
  rw [wo_ne (ne_of_none e h)]
  exact s _ _ e
/-- what is new in H' -/
def nw (H H' : Hp) : Hp := fun b => match H b with
  | none => H' b
  | some _ => none
theorem nw_none {H H' : Hp} {b : Addr} (h : H b = none) : nw H H' b = H' b := by unfold nw; rw [h]
theorem nw_some {H H' : Hp} {b : Addr} {o : HO} (h : H b = some o) : nw H H' b = none := by unfold nw; rw [h]
theorem nw_of {H H' : Hp} {b : Addr} {o : HO} (h : nw H H' b = some o) : H b = none ∧ H' b = some o := by
  cases e : H b with
  | none => rw [nw_none e] at h; exact ⟨rfl, h⟩
  | some x => rw [nw_some e] at h; cases h
theorem nw_sub {H H' : Hp} : Same (nw H H') H' := fun b o e => (nw_of e).2
theorem nw_wo {H H' : Hp} {r : Addr} {o : HO} (h : H r = some o) : Same (nw H H') (wo H' r) := into_wo nw_sub (nw_some h)
theorem nw_into {G H H' : Hp} {r : Addr} (hr : ∃ o, H r = some o) : Same (nw H H') (wo H' r) := let ⟨_, h⟩ := hr; nw_wo h
/-- a later heap, the same beginning -/
theorem nw_later {H H1 H2 : Hp} (s : Same H1 H2) : Same (nw H H1) (nw H H2) := fun b o e => by
  obtain ⟨h1, h2⟩ := nw_of e
  rw [nw_none h1]
  exact s _ _ h2
/-- an earlier beginning -/
theorem nw_earlier {H H1 H2 : Hp} (s : Same H H1) : Same (nw H1 H2) (nw H H2) := fun b o e => by
  obtain ⟨h1, h2⟩ := nw_of e
  rw [nw_none (s.free h1)]
  exact h2
theorem nw_new {H H' : Hp} {p : Addr} {o : HO} (s : Same H H') (h : H' p = none) : nw H (upd H' p o) p = some o := by
  rw [nw_none (s.free h), upd_same]
theorem sqt_dp {K : PySem.W.Frag} {H : Hp} {a : Addr} {xs : List V} {ds : List PyData} (h : SqT K H a xs) (d : DpAll K H xs ds) : Dp K H (.ref a) (.tuple ds) := .tup h d

/-! ### ints, pairs, lists of them as data -/
theorem dpa_ints {K : PySem.W.Frag} {H : Hp} : ∀ ns : List Int, DpAll K H (ns.map V.int) (ns.map PyData.int)
  | [] => .nil
  | n :: r => .cons (.int n) (dpa_ints r)
theorem dpa_ints_inv {K : PySem.W.Frag} {H : Hp} : ∀ {ns : List Int} {vs : List V}, DpAll K H vs (ns.map PyData.int) → vs = ns.map V.int
  | [], _, h => by cases h; rfl
  | n :: r, _, h => by
    cases h with
    | cons h1 h2 =>
      cases h1
      rw [dpa_ints_inv h2]
      rfl
theorem dpa_len {K : PySem.W.Frag} {H : Hp} : ∀ {ds : List PyData} {vs : List V}, DpAll K H vs ds → vs.length = ds.length
  | [], _, h => by cases h; rfl
  | _ :: _, _, h => by
    cases h with
    | cons h1 h2 => simp only [List.length_cons, dpa_len h2]
theorem dpa_get {K : PySem.W.Frag} {H : Hp} : ∀ {ds : List PyData} {vs : List V} {i : Nat} {d : PyData}, DpAll K H vs ds → ds[i]? = some d → ∃ v, vs[i]? = some v ∧ Dp K H v d
  | [], _, _, _, _, e => by simp at e
  | _ :: _, _, 0, _, h, e => by
    cases h with
    | cons h1 h2 => simp at e; subst e; exact ⟨_, rfl, h1⟩
  | _ :: _, _, i + 1, _, h, e => by
    cases h with
    | cons h1 h2 =>
      obtain ⟨v, a, b⟩ := dpa_get (i := i) h2 (by simpa using e)
      exact ⟨v, by simpa using a, b⟩
theorem dpa_get' {K : PySem.W.Frag} {H : Hp} : ∀ {ds : List PyData} {vs : List V} {i : Nat} {v : V}, DpAll K H vs ds → vs[i]? = some v → ∃ d, ds[i]? = some d ∧ Dp K H v d
  | [], _, _, _, h, e => by cases h; simp at e
  | _ :: _, _, 0, _, h, e => by
    cases h with
    | cons h1 h2 => simp at e; subst e; exact ⟨_, rfl, h1⟩
  | _ :: _, _, i + 1, _, h, e => by
    cases h with
    | cons h1 h2 =>
      obtain ⟨v, a, b⟩ := dpa_get' (i := i) h2 (by simpa using e)
      exact ⟨v, by simpa using a, b⟩
theorem dpa_snoc {K : PySem.W.Frag} {H : Hp} : ∀ {ds : List PyData} {vs : List V} {d : PyData} {v : V}, DpAll K H vs ds → Dp K H v d → DpAll K H (vs ++ [v]) (ds ++ [d])
  | [], _, _, _, h, e => by cases h; exact .cons e .nil
  | _ :: _, _, _, _, h, e => by
    cases h with
    | cons h1 h2 => exact .cons h1 (dpa_snoc h2 e)
theorem dp_list {K : PySem.W.Frag} {H : Hp} {v : V} {ds : List PyData} (h : Dp K H v (.list ds)) : ∃ a xs, v = .ref a ∧ SqL K H a xs ∧ DpAll K H xs ds := by
  cases h with
  | lst hs ha => exact ⟨_, _, rfl, hs, ha⟩
theorem dp_tuple {K : PySem.W.Frag} {H : Hp} {v : V} {ds : List PyData} (h : Dp K H v (.tuple ds)) : ∃ a xs, v = .ref a ∧ SqT K H a xs ∧ DpAll K H xs ds := by
  cases h with
  | tup hs ha => exact ⟨_, _, rfl, hs, ha⟩
theorem dp_ints {K : PySem.W.Frag} {H : Hp} {v : V} {ns : List Int} (h : Dp K H v (.list (ns.map PyData.int))) : ∃ a, v = .ref a ∧ SqL K H a (ns.map V.int) := by
  obtain ⟨a, xs, e, hs, ha⟩ := dp_list h
  rw [dpa_ints_inv ha] at hs
  exact ⟨a, e, hs⟩
theorem dp_tints {K : PySem.W.Frag} {H : Hp} {v : V} {ns : List Int} (h : Dp K H v (.tuple (ns.map PyData.int))) : ∃ a, v = .ref a ∧ SqT K H a (ns.map V.int) := by
  obtain ⟨a, xs, e, hs, ha⟩ := dp_tuple h
  rw [dpa_ints_inv ha] at hs
  exact ⟨a, e, hs⟩
theorem dp_ints_of {K : PySem.W.Frag} {H : Hp} {a : Addr} {ns : List Int} (h : SqL K H a (ns.map V.int)) : Dp K H (.ref a) (.list (ns.map PyData.int)) := .lst h (dpa_ints ns)
theorem dp_tints_of {K : PySem.W.Frag} {H : Hp} {a : Addr} {ns : List Int} (h : SqT K H a (ns.map V.int)) : Dp K H (.ref a) (.tuple (ns.map PyData.int)) := .tup h (dpa_ints ns)

theorem eqv_nil (ns : List Int) : PyData.eqv (.list (ns.map PyData.int)) (.list []) = decide (ns = []) := by
  cases ns with
  | nil => simp [PyData.eqv, PyData.eqvAll]
  | cons n r => simp [PyData.eqv, PyData.eqvAll]

/-! ### disks and asks -/
/-- (come, track, sector) -/
abbrev Ask := Int × Int × Int
def dAsk (a : Ask) : PyData := .tuple ([a.1, a.2.1, a.2.2].map PyData.int)
def dAsks (l : List Ask) : PyData := .list (l.map dAsk)
structure Disk where
  tr : Int
  sc : Int
  pa : Int
  he : Int
def dDisk (d : Disk) : PyData := .tuple ([d.tr, d.sc, d.pa, d.he].map PyData.int)
structure GoodDisk (d : Disk) : Prop where
  t1 : 1 ≤ d.tr
  t2 : d.tr ≤ 64
  s1 : 1 ≤ d.sc
  s2 : d.sc ≤ 16
  p1 : 1 ≤ d.pa
  p2 : d.pa ≤ 4
  h1 : 0 ≤ d.he
  h2 : d.he < d.tr
structure GoodAsk (d : Disk) (a : Ask) : Prop where
  c1 : 0 ≤ a.1
  c2 : a.1 ≤ 999
  t1 : 0 ≤ a.2.1
  t2 : a.2.1 < d.tr
  s1 : 0 ≤ a.2.2
  s2 : a.2.2 < d.sc
structure GoodAsks (d : Disk) (l : List Ask) : Prop where
  len : l.length ≤ 40
  all : ∀ a ∈ l, GoodAsk d a
theorem GoodAsks.at {d : Disk} {l : List Ask} (g : GoodAsks d l) {i : Nat} {a : Ask} (h : l[i]? = some a) : GoodAsk d a := g.all a (List.mem_of_getElem? h)
theorem dp_asks {K : PySem.W.Frag} {H : Hp} {v : V} {l : List Ask} (h : Dp K H v (dAsks l)) : ∃ a xs, v = .ref a ∧ SqL K H a xs ∧ xs.length = l.length ∧
    ∀ (i : Nat) (k : Ask), l[i]? = some k → ∃ p, xs[i]? = some (.ref p) ∧ SqT K H p [.int k.1, .int k.2.1, .int k.2.2] ∧ Dp K H (.ref p) (dAsk k) := by
  obtain ⟨a, xs, e, hs, ha⟩ := dp_list h
  refine ⟨a, xs, e, hs, by rw [dpa_len ha, List.length_map], fun i k hk => ?_⟩
  obtain ⟨v, hv, hd⟩ := dpa_get (i := i) (d := dAsk k) ha (by rw [List.getElem?_map, hk]; rfl)
  obtain ⟨p, rfl, ht⟩ := dp_tints hd
  exact ⟨p, hv, ht, hd⟩
theorem dp_disk {K : PySem.W.Frag} {H : Hp} {v : V} {d : Disk} (h : Dp K H v (dDisk d)) : ∃ a, v = .ref a ∧ SqT K H a [.int d.tr, .int d.sc, .int d.pa, .int d.he] := dp_tints h

/-! ### all but what stands at r stays -/
def SameBut (r : Addr) (H H' : Hp) : Prop := ∀ b o, b ≠ r → H b = some o → H' b = some o
theorem sb_refl {r : Addr} {H : Hp} : SameBut r H H := fun _ _ _ e => e
theorem sb_of {r : Addr} {H H' : Hp} (s : Same H H') : SameBut r H H' := fun b o _ e => s b o e
theorem sb_trans {r : Addr} {H H1 H2 : Hp} (a : SameBut r H H1) (b : SameBut r H1 H2) : SameBut r H H2 := fun c o n e => b c o n (a c o n e)
theorem sb_upd {r : Addr} {H H' : Hp} {o : HO} (s : SameBut r H H') : SameBut r H (upd H' r o) := fun b x n e => by
  rw [upd_ne n]
  exact s b x n e
theorem sb_new {r p : Addr} {H H' : Hp} {o : HO} (s : SameBut r H H') (h : H' p = none) : SameBut r H (upd H' p o) := fun b x n e => by
  rw [upd_ne (ne_of_none (s b x n e) h)]
  exact s b x n e
theorem sb_old {r p : Addr} {H H' : Hp} {o : HO} (s : SameBut r H H') (h : H p = none) : SameBut r H (upd H' p o) := fun b x n e => by
  rw [upd_ne (ne_of_none e h)]
  exact s b x n e
theorem sb_wo {r : Addr} {H H' : Hp} (s : SameBut r H H') : Same (wo H r) (wo H' r) := fun b o e => by
  by_cases h : b = r
  · rw [h, wo_at] at e
    cases e
  · rw [wo_ne h] at e
    rw [wo_ne h]
    exact s _ _ h e
theorem sb_free {r p : Addr} {H H' : Hp} (s : SameBut r H H') (n : p ≠ r) (h : H' p = none) : H p = none := by
  cases e : H p with
  | none => rfl
  | some o =>
    rw [s p o n e] at h
    cases h
theorem wo2_step {r F : Addr} {H H' : Hp} (s : ∀ b o, b ≠ r → b ≠ F → H b = some o → H' b = some o) : Same (wo (wo H r) F) (wo (wo H' r) F) := fun b o e => by
  have n1 : b ≠ F := fun z => by
    rw [z, wo_at] at e
    cases e
  rw [wo_ne n1] at e
  have n2 : b ≠ r := fun z => by
    rw [z, wo_at] at e
    cases e
  rw [wo_ne n2] at e
  rw [wo_ne n1, wo_ne n2]
  exact s b o n2 n1 e
/-- what is new in H', besides F -/
def fr (H H' : Hp) (F : Addr) : Hp := wo (nw H H') F
theorem fr_step {H H1 H2 : Hp} {F : Addr} (s : SameBut F H1 H2) : Same (fr H H1 F) (fr H H2 F) := fun b o e => by
  have n : b ≠ F := fun z => by
    unfold fr at e
    rw [z, wo_at] at e
    cases e
  unfold fr at e ⊢
  rw [wo_ne n] at e
  rw [wo_ne n]
  obtain ⟨h1, h2⟩ := nw_of e
  rw [nw_none h1]
  exact s _ _ n h2
theorem fr_at {H H' : Hp} {F p : Addr} {o : HO} (n : p ≠ F) (h : H p = none) (e : H' p = some o) : fr H H' F p = some o := by
  unfold fr
  rw [wo_ne n, nw_none h]
  exact e
theorem fr_nw {H H' : Hp} {F : Addr} : Same (fr H H' F) (nw H H') := wo_sub
theorem fr_sub {H H' : Hp} {F : Addr} : Same (fr H H' F) H' := wo_sub.trans nw_sub

/-- what is new in H', besides F and W -/
def fr2 (H H' : Hp) (F W : Addr) : Hp := wo (fr H H' F) W
theorem fr2_step {H H1 H2 : Hp} {F W : Addr} (s : ∀ b o, b ≠ F → b ≠ W → H1 b = some o → H2 b = some o) : Same (fr2 H H1 F W) (fr2 H H2 F W) := fun b o e => by
  have n1 : b ≠ W := fun z => by
    unfold fr2 at e
    rw [z, wo_at] at e
    cases e
  unfold fr2 at e ⊢
  rw [wo_ne n1] at e
  rw [wo_ne n1]
  have n2 : b ≠ F := fun z => by
    unfold fr at e
    rw [z, wo_at] at e
    cases e
  unfold fr at e ⊢
  rw [wo_ne n2] at e
  rw [wo_ne n2]
  obtain ⟨h1, h2⟩ := nw_of e
  rw [nw_none h1]
  exact s _ _ n2 n1 h2
theorem fr2_at {H H' : Hp} {F W p : Addr} {o : HO} (n : p ≠ F) (n2 : p ≠ W) (h : H p = none) (e : H' p = some o) : fr2 H H' F W p = some o := by
  unfold fr2
  rw [wo_ne n2]
  exact fr_at n h e

/-! ### orders: numbers -/
def nints (os : List Nat) : List Int := os.map fun (i : Nat) => (i : Int)
theorem nints_len (os : List Nat) : (nints os).length = os.length := List.length_map ..
theorem nints_at {os : List Nat} {i : Nat} {x : V} (h : ((nints os).map V.int)[i]? = some x) : ∃ n, os[i]? = some n ∧ x = V.int (n : Int) := by
  unfold nints at h
  rw [List.map_map, List.getElem?_map] at h
  cases e : os[i]? with
  | none =>
    rw [e] at h
    cases h
  | some n =>
    rw [e] at h
    exact ⟨n, rfl, (Option.some.inj h).symm⟩
theorem nints_get {os : List Nat} {i n : Nat} (h : os[i]? = some n) : ((nints os).map V.int)[i]? = some (V.int (n : Int)) := by
  unfold nints
  rw [List.map_map, List.getElem?_map, h]
  rfl
theorem take_more {α : Type} : ∀ {l : List α} {i : Nat} {x : α}, l[i]? = some x → l.take (i + 1) = l.take i ++ [x]
  | [], i, x, h => by simp at h
  | a :: l, 0, x, h => by
    have e : a = x := Option.some.inj h
    subst e
    rfl
  | a :: l, i + 1, x, h => by
    have ih := take_more (l := l) (i := i) (x := x) h
    show a :: l.take (i + 1) = a :: l.take i ++ [x]
    rw [ih]
    rfl
theorem getD_of {α : Type} {l : List α} {i : Nat} {x d : α} (h : l[i]? = some x) : l.getD i d = x := by
  rw [List.getD_eq_getElem?_getD, h]
  rfl
/-- a rising list of the numbers below n, in any order, is 0, 1, .. -/
theorem rising_range {n : Nat} {ns : List Int} {os : List Nat} (p : ns.Perm (nints os)) (q : os.Perm (List.range n)) (r : ns.Pairwise (· ≤ ·)) : ns = nints (List.range n) := by
  have p2 : ns.Perm (nints (List.range n)) := p.trans (q.map _)
  refine List.Perm.eq_of_pairwise (le := fun a b : Int => a ≤ b) (fun a b _ _ h1 h2 => Int.le_antisymm h1 h2) r ?_ p2
  unfold nints
  rw [List.pairwise_map]
  exact List.pairwise_le_range.imp fun h => by exact_mod_cast h
theorem rg_nints (n : Nat) : rgV 0 (n : Int) = (nints (List.range n)).map V.int := by
  unfold rgV nints
  rw [List.map_map]
  have e : ((n : Int) - 0).toNat = n := by omega
  rw [e]
  refine List.map_congr_left fun i _ => ?_
  show V.int (0 + (i : Int)) = V.int (i : Int)
  rw [Int.zero_add]
theorem canLay_ints : ∀ ns : List Int, PyData.canLayAll0 (ns.map PyData.int) = true
  | [] => by simp [PyData.canLayAll0]
  | n :: r => by simp [PyData.canLayAll0, PyData.canLay0, canLay_ints r]
theorem shaped_ints (ns : List Int) : SeqAt.shaped (.list (ns.map PyData.int)) = true := by
  unfold SeqAt.shaped
  simp [PyData.canLay0, canLay_ints, PyData.depth, PySem.W.depth_ints]
theorem shaped_tints (ns : List Int) : SeqAt.shaped (.tuple (ns.map PyData.int)) = true := by
  unfold SeqAt.shaped
  simp [PyData.canLay0, canLay_ints, PyData.depth, PySem.W.depth_ints]

theorem canLay_asks : ∀ l : List Ask, PyData.canLayAll0 (l.map dAsk) = true
  | [] => by simp [PyData.canLayAll0]
  | n :: r => by simp [PyData.canLayAll0, PyData.canLay0, dAsk, canLay_asks r]
theorem depth_asks : ∀ l : List Ask, PyData.depthAll (l.map dAsk) ≤ 1
  | [] => by simp [PyData.depthAll]
  | n :: r => by
    have h := depth_asks r
    have e : PyData.depth (dAsk n) = 1 := by
      unfold dAsk
      rw [PyData.depth, PySem.W.depth_ints]
    rw [List.map_cons, PyData.depthAll, e]
    omega
theorem shaped_asks (l : List Ask) : SeqAt.shaped (dAsks l) = true := by
  have := depth_asks l
  unfold SeqAt.shaped
  simp [PyData.canLay0, canLay_asks, PyData.depth, dAsks]
  omega

/-! ### the row of the script: (script, place, mixed) -/
/-- the script: read, never written -/
def ScrAt (K : PySem.W.Frag) (H : Hp) (a : Addr) (ns : List Int) : Prop :=
  (∃ o, H a = some (.frz o (.lst (ns.map V.int)))) ∨
    ∃ (o : Obj) (its : Array Value) (n : Nat), K.lookup a = some o ∧ o.cls = .type "list" ∧ o.dict = none ∧ o.data = .seq its n ∧ its.size ≤ sizeLine ∧ Vals (ns.map V.int) its.toList
theorem ScrAt.sql {K : PySem.W.Frag} {H : Hp} {a : Addr} {ns : List Int} (h : ScrAt K H a ns) : SqL K H a (ns.map V.int) := by
  rcases h with ⟨o, h⟩ | h
  · exact .inl (.inr ⟨o, h⟩)
  · exact .inr h
theorem scr_of {K : PySem.W.Frag} {H : Hp} {a : Addr} {ns : List Int} (hO : Only H) (h : SqL K H a (ns.map V.int)) : ScrAt K H a ns := by
  rcases h with (h | ⟨o, h⟩) | h
  · rcases hO a with e | ⟨o, xs, e⟩
    · rw [e] at h
      cases h
    · rw [e] at h
      cases h
  · exact .inl ⟨o, h⟩
  · exact .inr h
theorem ScrAt.but {K : PySem.W.Frag} {H H' : Hp} {a : Addr} {ns : List Int} (h : ScrAt K H a ns) (s : Same H H') : ScrAt K H' a ns := by
  rcases h with ⟨o, h⟩ | h
  · exact .inl ⟨o, s _ _ h⟩
  · exact .inr h
theorem ScrAt.put {K : PySem.W.Frag} {H : Hp} {a b : Addr} {ns : List Int} {xs : List V} {o : HO} (h : ScrAt K H a ns) (e : H b = some (.lst xs)) : ScrAt K (upd H b o) a ns := by
  rcases h with ⟨x, h⟩ | h
  · have n : a ≠ b := ne_of h e (by intro z; cases z)
    exact .inl ⟨x, by rw [upd_ne n]; exact h⟩
  · exact .inr h
theorem ScrAt.of {K : PySem.W.Frag} {H H' : Hp} {a : Addr} {ns : List Int} (h : ScrAt K H a ns) (s : ∀ b o u, H b = some (.frz o u) → H' b = some (.frz o u)) : ScrAt K H' a ns := by
  rcases h with ⟨x, h⟩ | h
  · exact .inl ⟨x, s _ _ _ h⟩
  · exact .inr h
def RowAt (K : PySem.W.Frag) (H : Hp) (r : Addr) : Prop := ∃ (a : Addr) (ns : List Int) (pos mix : Int), 0 ≤ pos ∧ H r = some (.lst [.ref a, .int pos, .int mix]) ∧ ScrAt K H a ns
theorem RowAt.but {K : PySem.W.Frag} {H H' : Hp} {r : Addr} (h : RowAt K H r) (s : Same H H') : RowAt K H' r := by
  obtain ⟨a, ns, pos, mix, h1, h2, h3⟩ := h
  exact ⟨a, ns, pos, mix, h1, s _ _ h2, h3.but s⟩
theorem RowAt.put {K : PySem.W.Frag} {H : Hp} {r b : Addr} {xs : List V} {o : HO} (h : RowAt K H r) (n : b ≠ r) (e : H b = some (.lst xs)) : RowAt K (upd H b o) r := by
  obtain ⟨a, ns, pos, mix, h1, h2, h3⟩ := h
  exact ⟨a, ns, pos, mix, h1, by rw [upd_ne n.symm]; exact h2, h3.put e⟩
theorem row_start {K : PySem.W.Frag} {H : Hp} {a r : Addr} {ns : List Int} (h : ScrAt K H a ns) (e : H r = none) : RowAt K (upd H r (.lst [.ref a, .int 0, .int 0])) r := ⟨a, ns, 0, 0, Int.le_refl _, upd_same, h.but (same_new e)⟩
theorem same_sb {G H H' : Hp} {r : Addr} (s : Same G H) (e : G r = none) (b : SameBut r H H') : Same G H' := fun c o q => b c o (ne_of_none q e) (s _ _ q)
theorem RowAt.some {K : PySem.W.Frag} {H : Hp} {r : Addr} (h : RowAt K H r) : ∃ o, H r = Option.some o := by
  obtain ⟨a, ns, pos, mix, h1, h2, h3⟩ := h
  exact ⟨_, h2⟩
theorem RowAt.ne {K : PySem.W.Frag} {H : Hp} {r p : Addr} (h : RowAt K H r) (e : H p = none) : p ≠ r := fun z => by
  obtain ⟨o, h⟩ := h.some
  rw [z, h] at e
  cases e

/-! ### max(ns, default=0) -/
def maxl : List Int → Int
  | [] => 0
  | n :: r => r.foldl max n
theorem reads_int {h : Heap} {v : Value} {n : Int} {as : List Addr} (r : Reads h v (.int n) as) : ∃ t, v = .int n t := by
  cases r
  exact ⟨_, rfl⟩
theorem alike_ints_all (ns : List Int) : PySem.W.AlikeAll (ns.map PyData.int) := by
  refine ⟨fun x hx y hy => ?_, fun x hx => ?_⟩
  · obtain ⟨i, _, rfl⟩ := List.mem_map.mp hx
    obtain ⟨j, _, rfl⟩ := List.mem_map.mp hy
    simp [PySem.W.alike]
  · obtain ⟨i, _, rfl⟩ := List.mem_map.mp hx
    exact fun z => by cases z
def rMaxD0 (K : PySem.W.Frag) : List V → List V → Hp → VK → Prop := fun vs zs H Q => ∃ (a : Addr) (ns : List Int), vs = [V.ref a] ∧ zs = [.int 0] ∧ SqL K H a (ns.map V.int) ∧ Q (.int (maxl ns)) H
section
variable {X : Cx}
theorem cr_maxD0 (hc : X.calm = true) (hu : X.A.units + 1 < cLine) : CallRK X (.builtin "max") [Str.ofString "default"] (rMaxD0 X.K) := by
  intro pins s σ H xs zs us ws Q I r rz h
  obtain ⟨a, ns, rfl, rfl, hs, q⟩ := h
  obtain ⟨its, rv, hl, _⟩ := I.list hs
  rw [Vals.ref1 r]
  cases rz with
  | cons rz1 rz2 =>
    cases rz2
    obtain ⟨t, rfl⟩ := rz1
    obtain ⟨as, hr⟩ := Dp.readsAll I (ns.map PyData.int) _ its (dpa_ints ns) rv
    refine PySem.W.max_list_default (I.ok.hd hc) hl.isList (by simpa using hr) (alike_ints_all ns) (by rw [PySem.W.depth_ints]; exact hu) (fun e h' tk hk => ?_) fun y ys i v h' tk bs e hv hread hk => ?_
    · have e0 : ns = [] := by
        cases ns with
        | nil => rfl
        | cons n r => cases e
      subst e0
      exact ⟨.int 0, H, I.kept hk, ⟨_, rfl⟩, q⟩
    · obtain ⟨n, r, rfl, rfl, rfl⟩ : ∃ n r, ns = n :: r ∧ y = .int n ∧ ys = r.map PyData.int := by
        cases ns with
        | nil => cases e
        | cons n r =>
          rw [List.map_cons] at e
          injection e with e1 e2
          exact ⟨n, r, rfl, e1.symm, e2.symm⟩
      rw [PySem.W.maxD_ints] at hread
      obtain ⟨t', rfl⟩ := reads_int hread
      exact ⟨.int (maxl (n :: r)), H, I.kept hk, ⟨_, rfl⟩, q⟩
end
end Ag

namespace Ag
open PySem PySem.Spec PyProof.Rows L2

/-! ### the mathematics: when an ask is done -/
def iabs (i : Int) : Int := if i < 0 then -i else i
def imax (i j : Int) : Int := if j > i then j else i
def serve (d : Disk) (now here : Int) (a : Ask) : Int :=
  imax now a.1 + iabs (a.2.1 - here) * d.pa + (a.2.2 - (imax now a.1 + iabs (a.2.1 - here) * d.pa)) % d.sc + 1
theorem iabs_nn (i : Int) : 0 ≤ iabs i := by
  unfold iabs
  split <;> omega
theorem imax_l (i j : Int) : i ≤ imax i j := by
  unfold imax
  split <;> omega
theorem imax_r (i j : Int) : j ≤ imax i j := by
  unfold imax
  split <;> omega
theorem serve_lb {d : Disk} (g : GoodDisk d) (now here : Int) (a : Ask) : imax now a.1 + 1 ≤ serve d now here a := by
  unfold serve
  have h1 : 0 ≤ iabs (a.2.1 - here) * d.pa := Int.mul_nonneg (iabs_nn _) (by have := g.p1; omega)
  have h2 := Int.emod_nonneg (a.2.2 - (imax now a.1 + iabs (a.2.1 - here) * d.pa)) (b := d.sc) (by have := g.s1; omega)
  omega
/-- rows: (number, when it is done), in an order -/
def rowsOf (d : Disk) (asks : List Ask) : Int → Int → List Nat → List (Nat × Int)
  | _, _, [] => []
  | now, here, i :: r => (i, serve d now here (asks.getD i (0, 0, 0))) :: rowsOf d asks (serve d now here (asks.getD i (0, 0, 0))) (asks.getD i (0, 0, 0)).2.1 r
def dRow (r : Nat × Int) : PyData := .tuple ([(r.1 : Int), r.2].map PyData.int)
def endOf (d : Disk) (asks : List Ask) : Int → Int → List Nat → Int × Int
  | now, here, [] => (now, here)
  | now, here, i :: r => endOf d asks (serve d now here (asks.getD i (0, 0, 0))) (asks.getD i (0, 0, 0)).2.1 r
theorem rowsOf_snoc (d : Disk) (asks : List Ask) (i : Nat) : ∀ (r : List Nat) (now here : Int), rowsOf d asks now here (r ++ [i]) = rowsOf d asks now here r ++ [(i, serve d (endOf d asks now here r).1 (endOf d asks now here r).2 (asks.getD i (0, 0, 0)))]
  | [], _, _ => rfl
  | j :: r, now, here => by
    show _ :: rowsOf d asks _ _ (r ++ [i]) = _
    rw [rowsOf_snoc d asks i r]
    rfl
theorem endOf_snoc (d : Disk) (asks : List Ask) (i : Nat) : ∀ (r : List Nat) (now here : Int), endOf d asks now here (r ++ [i]) = (serve d (endOf d asks now here r).1 (endOf d asks now here r).2 (asks.getD i (0, 0, 0)), (asks.getD i (0, 0, 0)).2.1)
  | [], _, _ => rfl
  | j :: r, now, here => endOf_snoc d asks i r _ _
theorem rowsOf_len (d : Disk) (asks : List Ask) : ∀ (r : List Nat) (now here : Int), (rowsOf d asks now here r).length = r.length
  | [], _, _ => rfl
  | j :: r, now, here => by
    show (rowsOf d asks _ _ r).length + 1 = r.length + 1
    rw [rowsOf_len d asks r]
theorem rowsOf_fst (d : Disk) (asks : List Ask) : ∀ (r : List Nat) (now here : Int), (rowsOf d asks now here r).map (·.1) = r
  | [], _, _ => rfl
  | j :: r, now, here => by
    show j :: (rowsOf d asks _ _ r).map (·.1) = j :: r
    rw [rowsOf_fst d asks r]
/-- how far the arm goes -/
def wayOf (asks : List Ask) : Int → List (Nat × Int) → Int
  | _, [] => 0
  | here, r :: rest => iabs ((asks.getD r.1 (0, 0, 0)).2.1 - here) + wayOf asks (asks.getD r.1 (0, 0, 0)).2.1 rest
def hereOf (asks : List Ask) : Int → List (Nat × Int) → Int
  | here, [] => here
  | _, r :: rest => hereOf asks (asks.getD r.1 (0, 0, 0)).2.1 rest
theorem wayOf_snoc (asks : List Ask) (x : Nat × Int) : ∀ (rs : List (Nat × Int)) (here : Int), wayOf asks here (rs ++ [x]) = wayOf asks here rs + iabs ((asks.getD x.1 (0, 0, 0)).2.1 - hereOf asks here rs)
  | [], here => by
    show iabs _ + 0 = 0 + iabs _
    simp [hereOf]
  | r :: rs, here => by
    show iabs _ + wayOf asks _ (rs ++ [x]) = iabs _ + wayOf asks _ rs + _
    rw [wayOf_snoc asks x rs]
    simp only [hereOf]
    omega
theorem hereOf_snoc (asks : List Ask) (x : Nat × Int) : ∀ (rs : List (Nat × Int)) (here : Int), hereOf asks here (rs ++ [x]) = (asks.getD x.1 (0, 0, 0)).2.1
  | [], here => rfl
  | r :: rs, here => hereOf_snoc asks x rs _
def waitOf (asks : List Ask) (r : Nat × Int) : Int := r.2 - (asks.getD r.1 (0, 0, 0)).1
def waitsOf (asks : List Ask) (rs : List (Nat × Int)) : List Int := rs.map (waitOf asks)
/-- (way, longest, all) -/
def costsOf (d : Disk) (asks : List Ask) (rs : List (Nat × Int)) : Int × Int × Int := (wayOf asks d.he rs, maxl (waitsOf asks rs), (waitsOf asks rs).sum)
def dCosts (c : Int × Int × Int) : PyData := .tuple ([c.1, c.2.1, c.2.2].map PyData.int)
def dRes (rs : List (Nat × Int)) (c : Int × Int × Int) : PyData := .tuple [.list (rs.map dRow), dCosts c]
theorem foldl_max_le (m : Int) : ∀ (l : List Int) (n : Int), m ≤ n → m ≤ l.foldl max n
  | [], n, h => h
  | x :: r, n, h => foldl_max_le m r (max n x) (by omega)
/-- max([0] + waits) is the same where no wait is below 0 -/
theorem maxl_zero : ∀ (l : List Int), (∀ x ∈ l, 0 ≤ x) → maxl (0 :: l) = maxl l
  | [], _ => rfl
  | x :: r, h => by
    show r.foldl max (max 0 x) = r.foldl max x
    have hx := h x List.mem_cons_self
    rw [show max 0 x = x by omega]
theorem end_here (d : Disk) (asks : List Ask) : ∀ (r : List Nat) (now here : Int), (endOf d asks now here r).2 = hereOf asks here (rowsOf d asks now here r)
  | [], _, _ => rfl
  | i :: r, now, here => end_here d asks r _ _
theorem rows_waits {d : Disk} (g : GoodDisk d) (asks : List Ask) : ∀ (r : List Nat) (now here : Int), ∀ x ∈ waitsOf asks (rowsOf d asks now here r), 1 ≤ x
  | [], _, _, x, hx => by simp [rowsOf, waitsOf] at hx
  | i :: r, now, here, x, hx => by
    unfold rowsOf waitsOf at hx
    rw [List.map_cons, List.mem_cons] at hx
    rcases hx with rfl | hx
    · have h1 := serve_lb g now here (asks.getD i (0, 0, 0))
      have h2 := imax_r now (asks.getD i (0, 0, 0)).1
      show 1 ≤ serve d now here (asks.getD i (0, 0, 0)) - (asks.getD i (0, 0, 0)).1
      omega
    · exact rows_waits g asks r _ _ x hx
/-! ### step by step: what the law does -/
theorem iabs_step {t h : Int} (ne : h ≠ t) : iabs (t - (h + (if t < h then -1 else 1))) = iabs (t - h) - 1 := by
  unfold iabs
  split <;> split <;> split <;> omega
theorem emod_step {s n c : Int} (hc : 0 < c) (hs0 : 0 ≤ s) (hs : s < c) (ne : n % c ≠ s) : (s - (n + 1)) % c = (s - n) % c - 1 ∧ 0 < (s - n) % c := by
  have h0 := Int.emod_nonneg (s - n) (b := c) (by omega)
  have h1 := Int.emod_lt_of_pos (s - n) hc
  have hz : (s - n) % c ≠ 0 := fun e => by
    have d : c ∣ s - n := Int.dvd_of_emod_eq_zero e
    obtain ⟨k, hk⟩ := d
    have e2 : n = s + c * (-k) := by
      rw [Int.mul_neg]
      omega
    rw [e2, Int.add_mul_emod_self_left, Int.emod_eq_of_lt hs0 hs] at ne
    exact ne rfl
  refine ⟨?_, by omega⟩
  have e : s - (n + 1) = ((s - n) % c - 1) + c * ((s - n) / c) := by
    have := Int.mul_ediv_add_emod (s - n) c
    omega
  rw [e, Int.add_mul_emod_self_left]
  exact Int.emod_eq_of_lt (by omega) (by omega)
theorem emod_end {s n c : Int} (hs : n % c = s) : (s - n) % c = 0 := by
  rw [← hs]
  have := Int.mul_ediv_add_emod n c
  have e : n % c - n = 0 + c * (-(n / c)) := by
    rw [Int.mul_neg]
    omega
  rw [e, Int.add_mul_emod_self_left]
  simp
end Ag

namespace Ag
open PySem PySem.Spec PyProof.Rows L2

/-! ### min of alike data: the first of the least -/
theorem minD_mem (x : PyData) (xs : List PyData) : PySem.W.minD x xs ∈ x :: xs := by
  have go : ∀ (xs : List PyData) (x : PyData), xs.foldl (fun a y => if PySem.W.dataLt y a then y else a) x ∈ x :: xs := by
    intro xs
    induction xs with
    | nil => intro x; exact List.mem_cons_self
    | cons y r ih =>
      intro x
      show r.foldl _ (if PySem.W.dataLt y x then y else x) ∈ x :: y :: r
      have h := ih (if PySem.W.dataLt y x then y else x)
      rcases List.mem_cons.mp h with h | h
      · rw [h]
        split
        · exact List.mem_cons_of_mem _ List.mem_cons_self
        · exact List.mem_cons_self
      · exact List.mem_cons_of_mem _ (List.mem_cons_of_mem _ h)
  exact go xs x
/-- min(xs): some item whose data is the least -/
def rMinD (K : PySem.W.Frag) (A : Around) : List V → Hp → VK → Prop := fun vs H Q => ∃ (a : Addr) (xs : List V) (d : PyData) (ds : List PyData), vs = [V.ref a] ∧ SqL K H a xs ∧ DpAll K H xs (d :: ds) ∧ PySem.W.AlikeAll (d :: ds) ∧ A.units + 1 + PyData.depthAll (d :: ds) < cLine ∧
  ∀ (i : Nat) (v : V), xs[i]? = some v → (d :: ds)[i]? = some (PySem.W.minD d ds) → Q v H
section
variable {X : Cx}
theorem cr_minD (hc : X.calm = true) : CallR X (.builtin "min") (rMinD X.K X.A) := by
  intro pins s σ H xs us Q I r h
  obtain ⟨a, xs, d, ds, rfl, hs, hda, hal, hu, q⟩ := h
  obtain ⟨its, rv, hl, _⟩ := I.list hs
  rw [Vals.ref1 r]
  obtain ⟨as, hr⟩ := Dp.readsAll I (d :: ds) _ its hda rv
  refine PySem.W.min_list_data (I.ok.hd hc) hl.isList (by simpa using hr) hal hu fun i v h' tk bs hv hread hk => ?_
  have hv' : its[i]? = some v := by simpa using hv
  have hlen := rv.length
  obtain ⟨x, hx⟩ : ∃ x, xs[i]? = some x := by
    have := (List.getElem?_eq_some_iff.mp hv').1
    exact ⟨_, List.getElem?_eq_getElem (by omega)⟩
  obtain ⟨u, hu', ru⟩ := rv.get hx
  rw [hv'] at hu'
  cases hu'
  have I' : Inv X pins σ H { s with heap := h', toks := tk } := I.kept hk
  obtain ⟨e, he, hed⟩ := dpa_get' hda hx
  obtain ⟨as', hr'⟩ := Dp.reads I' e x v hed ru
  have em : e = PySem.W.minD d ds := PySem.W.alike_unique e _ v as' bs (hal.1 e (List.mem_of_getElem? he) _ (minD_mem d ds)) hr' hread
  rw [em] at he
  exact ⟨x, H, I', ru, q i x hx he⟩
end
/-! ### a number in an order -/
theorem inV_nints (n : Nat) : ∀ os : List Nat, inV (.int (n : Int)) ((nints os).map V.int) = decide (n ∈ os)
  | [] => by simp [inV, nints]
  | m :: r => by
    have ih := inV_nints n r
    unfold inV nints at ih ⊢
    rw [List.map_cons, List.map_cons, List.any_cons, ih]
    show ((m : Int) == (n : Int) || decide (n ∈ r)) = decide (n ∈ m :: r)
    by_cases h : n = m
    · subst h
      simp
    · have : ((m : Int) == (n : Int)) = false := by
        simp
        omega
      rw [this]
      simp [h]
theorem flat_nints : ∀ os : List Nat, ((nints os).map V.int).all flatV = true
  | [] => rfl
  | m :: r => by
    have ih := flat_nints r
    unfold nints at ih ⊢
    rw [List.map_cons, List.map_cons, List.all_cons, ih]
    rfl
/-! ### all orders, one number more a turn -/
def moreOf (n : Nat) (os : List Nat) : List (List Nat) := ((List.range n).filter fun i => decide (i ∉ os)).map fun i => os ++ [i]
def ordersK (n : Nat) : Nat → List (List Nat)
  | 0 => [[]]
  | k + 1 => (ordersK n k).flatMap (moreOf n)
theorem moreOf_mem {n : Nat} {os os' : List Nat} : os' ∈ moreOf n os ↔ ∃ i, i < n ∧ i ∉ os ∧ os' = os ++ [i] := by
  unfold moreOf
  rw [List.mem_map]
  constructor
  · rintro ⟨i, hi, rfl⟩
    rw [List.mem_filter, List.mem_range, decide_eq_true_eq] at hi
    exact ⟨i, hi.1, hi.2, rfl⟩
  · rintro ⟨i, h1, h2, rfl⟩
    exact ⟨i, by rw [List.mem_filter, List.mem_range, decide_eq_true_eq]; exact ⟨h1, h2⟩, rfl⟩
structure IsOrd (n k : Nat) (os : List Nat) : Prop where
  len : os.length = k
  lt : ∀ i ∈ os, i < n
  nd : os.Nodup
theorem ordersK_is {n : Nat} : ∀ {k : Nat} {os : List Nat}, os ∈ ordersK n k → IsOrd n k os
  | 0, os, h => by
    rw [List.mem_singleton.mp (show os ∈ [[]] from h)]
    exact ⟨rfl, fun i hi => absurd hi (by simp), List.nodup_nil⟩
  | k + 1, os, h => by
    obtain ⟨o, ho, hm⟩ := List.mem_flatMap.mp h
    obtain ⟨i, h1, h2, rfl⟩ := moreOf_mem.mp hm
    have ih := ordersK_is ho
    refine ⟨by rw [List.length_append, ih.len]; rfl, fun j hj => ?_, ?_⟩
    · rcases List.mem_append.mp hj with hj | hj
      · exact ih.lt j hj
      · rw [List.mem_singleton.mp hj]
        exact h1
    · rw [List.nodup_append]
      refine ⟨ih.nd, by simp, fun a ha b hb => ?_⟩
      rw [List.mem_singleton.mp hb]
      exact fun e => h2 (e ▸ ha)
theorem ordersK_of {n : Nat} : ∀ {k : Nat} {os : List Nat}, IsOrd n k os → os ∈ ordersK n k
  | 0, os, h => by
    have e : os = [] := List.eq_nil_of_length_eq_zero h.len
    subst e
    exact List.mem_singleton.mpr rfl
  | k + 1, os, h => by
    have hne : os ≠ [] := fun e => by
      have := h.len
      rw [e] at this
      cases this
    obtain ⟨o, i, rfl⟩ : ∃ o i, os = o ++ [i] := ⟨os.dropLast, os.getLast hne, (List.dropLast_concat_getLast hne).symm⟩
    have hl := h.len
    rw [List.length_append] at hl
    have hl' : o.length = k := by
      simp at hl
      exact hl
    have nd := h.nd
    rw [List.nodup_append] at nd
    refine List.mem_flatMap.mpr ⟨o, ordersK_of ⟨hl', fun j hj => h.lt j (List.mem_append_left _ hj), nd.1⟩, moreOf_mem.mpr ⟨i, h.lt i (by simp), fun hi => nd.2.2 i hi i (by simp) rfl, rfl⟩⟩
theorem isOrd_range {n : Nat} : IsOrd n n (List.range n) := ⟨List.length_range, fun i hi => List.mem_range.mp hi, List.nodup_range⟩
theorem isOrd_take {n k : Nat} (h : k ≤ n) : IsOrd n k (List.range k) := ⟨List.length_range, fun i hi => by have := List.mem_range.mp hi; omega, List.nodup_range⟩
theorem ordersK_ne {n k : Nat} (h : k ≤ n) : ordersK n k ≠ [] := List.ne_nil_of_mem (ordersK_of (isOrd_take h))
theorem moreOf_len (n : Nat) (os : List Nat) : (moreOf n os).length ≤ n := by
  unfold moreOf
  rw [List.length_map]
  exact Nat.le_trans (List.length_filter_le _ _) (by rw [List.length_range]; exact Nat.le_refl _)
theorem flat_len {α β : Type} (f : α → List β) (c : Nat) : ∀ l : List α, (∀ x ∈ l, (f x).length ≤ c) → (l.flatMap f).length ≤ l.length * c
  | [], _ => by simp
  | x :: r, h => by
    rw [List.flatMap_cons, List.length_append, List.length_cons, Nat.add_mul, Nat.one_mul]
    have h1 := h x List.mem_cons_self
    have h2 := flat_len f c r fun y hy => h y (List.mem_cons_of_mem _ hy)
    omega
theorem ordersK_len (n : Nat) : ∀ k : Nat, (ordersK n k).length ≤ n ^ k
  | 0 => by simp [ordersK]
  | k + 1 => by
    have h := flat_len (moreOf n) n (ordersK n k) fun x _ => moreOf_len n x
    have ih := ordersK_len n k
    have h2 := Nat.mul_le_mul_right n ih
    rw [Nat.pow_succ]
    exact Nat.le_trans h h2
theorem ordersK_len6 {n k : Nat} (hn : n ≤ 6) (hk : k ≤ 6) : (ordersK n k).length ≤ 46656 := by
  refine Nat.le_trans (ordersK_len n k) ?_
  have h1 : n ^ k ≤ 6 ^ k := Nat.pow_le_pow_left hn k
  have h2 : 6 ^ k ≤ 6 ^ 6 := Nat.pow_le_pow_right (by decide) hk
  exact Nat.le_trans h1 (Nat.le_trans h2 (by decide))
/-! ### all waits together, and its least -/
def allOf (d : Disk) (l : List Ask) (os : List Nat) : Int := (waitsOf l (rowsOf d l 0 d.he os)).sum
theorem allOf_snoc (d : Disk) (l : List Ask) (os : List Nat) (i : Nat) : allOf d l (os ++ [i]) = allOf d l os + serve d (endOf d l 0 d.he os).1 (endOf d l 0 d.he os).2 (l.getD i (0, 0, 0)) - (l.getD i (0, 0, 0)).1 := by
  unfold allOf
  rw [rowsOf_snoc]
  unfold waitsOf
  rw [List.map_append, List.sum_append]
  show _ + ((serve d (endOf d l 0 d.he os).1 (endOf d l 0 d.he os).2 (l.getD i (0, 0, 0)) - (l.getD i (0, 0, 0)).1) + 0) = _
  omega
def dSum (d : Disk) (l : List Ask) (os : List Nat) : PyData := .tuple [.int (allOf d l os), .list ((nints os).map PyData.int)]
theorem alike_sums (d : Disk) (l : List Ask) (oss : List (List Nat)) : PySem.W.AlikeAll (oss.map (dSum d l)) := by
  refine ⟨fun x hx y hy => ?_, fun x hx => ?_⟩
  · obtain ⟨o, _, rfl⟩ := List.mem_map.mp hx
    obtain ⟨o', _, rfl⟩ := List.mem_map.mp hy
    simp [dSum, PySem.W.alike, PySem.W.alikeAll, PySem.W.alike_ints]
  · obtain ⟨o, _, rfl⟩ := List.mem_map.mp hx
    exact fun z => by cases z
theorem depth_sums (d : Disk) (l : List Ask) : ∀ oss : List (List Nat), PyData.depthAll (oss.map (dSum d l)) ≤ 2
  | [] => by simp [PyData.depthAll]
  | o :: r => by
    have h := depth_sums d l r
    have e : PyData.depth (dSum d l o) = 2 := by
      unfold dSum
      simp [PyData.depth, PyData.depthAll, PySem.W.depth_ints]
    rw [List.map_cons, PyData.depthAll, e]
    omega
/-- the least of all orders -/
def leastOf (d : Disk) (l : List Ask) : PyData := match (ordersK l.length l.length).map (dSum d l) with
  | [] => .none
  | x :: r => PySem.W.minD x r
theorem leastOf_eq {d : Disk} {l : List Ask} {x : PyData} {r : List PyData} (h : (ordersK l.length l.length).map (dSum d l) = x :: r) : leastOf d l = PySem.W.minD x r := by
  unfold leastOf
  rw [h]
end Ag

namespace Ag
open PySem PySem.Spec PyProof.Rows L2
theorem ite_eqb {b c : Bool} {A B : Prop} (e : b = c) (h : if c = true then A else B) : if b = true then A else B := by
  rw [e]
  exact h
/-! ### two lists side by side -/
def All2 {α β : Type} (R : α → β → Prop) : List α → List β → Prop
  | [], [] => True
  | a :: as, b :: bs => R a b ∧ All2 R as bs
  | _, _ => False
theorem all2_len {α β : Type} {R : α → β → Prop} : ∀ {as : List α} {bs : List β}, All2 R as bs → as.length = bs.length
  | [], [], _ => rfl
  | _ :: _, _ :: _, h => by simp only [List.length_cons, all2_len h.2]
  | [], _ :: _, h => h.elim
  | _ :: _, [], h => h.elim
theorem all2_mono {α β : Type} {R S : α → β → Prop} (k : ∀ a b, R a b → S a b) : ∀ {as : List α} {bs : List β}, All2 R as bs → All2 S as bs
  | [], [], _ => trivial
  | _ :: _, _ :: _, h => ⟨k _ _ h.1, all2_mono k h.2⟩
  | [], _ :: _, h => h.elim
  | _ :: _, [], h => h.elim
theorem all2_snoc {α β : Type} {R : α → β → Prop} {a : α} {b : β} (r : R a b) : ∀ {as : List α} {bs : List β}, All2 R as bs → All2 R (as ++ [a]) (bs ++ [b])
  | [], [], _ => ⟨r, trivial⟩
  | _ :: _, _ :: _, h => ⟨h.1, all2_snoc r h.2⟩
  | [], _ :: _, h => h.elim
  | _ :: _, [], h => h.elim
theorem all2_app {α β : Type} {R : α → β → Prop} {cs : List α} {ds : List β} (r : All2 R cs ds) : ∀ {as : List α} {bs : List β}, All2 R as bs → All2 R (as ++ cs) (bs ++ ds)
  | [], [], _ => r
  | _ :: _, _ :: _, h => ⟨h.1, all2_app r h.2⟩
  | [], _ :: _, h => h.elim
  | _ :: _, [], h => h.elim
theorem all2_at {α β : Type} {R : α → β → Prop} : ∀ {as : List α} {bs : List β} {i : Nat} {a : α}, All2 R as bs → as[i]? = some a → ∃ b, bs[i]? = some b ∧ R a b
  | [], [], _, _, _, e => by simp at e
  | _ :: _, _ :: _, 0, _, h, e => by simp at e; subst e; exact ⟨_, rfl, h.1⟩
  | _ :: _, _ :: _, i + 1, _, h, e => by
    obtain ⟨b, e1, r⟩ := all2_at (i := i) h.2 (by simpa using e)
    exact ⟨b, by simpa using e1, r⟩
  | [], _ :: _, _, _, h, _ => h.elim
  | _ :: _, [], _, _, h, _ => h.elim
theorem all2_at' {α β : Type} {R : α → β → Prop} : ∀ {as : List α} {bs : List β} {i : Nat} {b : β}, All2 R as bs → bs[i]? = some b → ∃ a, as[i]? = some a ∧ R a b
  | [], [], _, _, _, e => by simp at e
  | _ :: _, _ :: _, 0, _, h, e => by simp at e; subst e; exact ⟨_, rfl, h.1⟩
  | _ :: _, _ :: _, i + 1, _, h, e => by
    obtain ⟨b, e1, r⟩ := all2_at' (i := i) h.2 (by simpa using e)
    exact ⟨b, by simpa using e1, r⟩
  | [], _ :: _, _, _, h, _ => h.elim
  | _ :: _, [], _, _, h, _ => h.elim
theorem all2_dpa {K : PySem.W.Frag} {H : Hp} {β : Type} {R : V → β → Prop} {f : β → PyData} (k : ∀ v b, R v b → Dp K H v (f b)) : ∀ {vs : List V} {bs : List β}, All2 R vs bs → DpAll K H vs (bs.map f)
  | [], [], _ => .nil
  | _ :: _, _ :: _, h => .cons (k _ _ h.1) (all2_dpa k h.2)
  | [], _ :: _, h => h.elim
  | _ :: _, [], h => h.elim
/-- an order, as a list of its own -/
def OrdAt (G : Hp) (v : V) (os : List Nat) : Prop := ∃ o, v = .ref o ∧ G o = some (.lst ((nints os).map V.int))
theorem ordAt_same {G G' : Hp} {v : V} {os : List Nat} (s : Same G G') (h : OrdAt G v os) : OrdAt G' v os := by
  obtain ⟨o, e, h⟩ := h
  exact ⟨o, e, s _ _ h⟩
theorem ordAt_dp {K : PySem.W.Frag} {G : Hp} {v : V} {os : List Nat} (h : OrdAt G v os) : Dp K G v (.list ((nints os).map PyData.int)) := by
  obtain ⟨o, rfl, h⟩ := h
  exact dp_ints_of (SqL.of h)
/-- (waits, order) -/
def SumAt (d : Disk) (l : List Ask) (G : Hp) (v : V) (os : List Nat) : Prop := ∃ m o, v = .ref m ∧ G m = some (.tup [.int (allOf d l os), .ref o]) ∧ G o = some (.lst ((nints os).map V.int))
theorem sumAt_same {d : Disk} {l : List Ask} {G G' : Hp} {v : V} {os : List Nat} (s : Same G G') (h : SumAt d l G v os) : SumAt d l G' v os := by
  obtain ⟨m, o, e, h1, h2⟩ := h
  exact ⟨m, o, e, s _ _ h1, s _ _ h2⟩
theorem sumAt_dp {K : PySem.W.Frag} {d : Disk} {l : List Ask} {G : Hp} {v : V} {os : List Nat} (h : SumAt d l G v os) : Dp K G v (dSum d l os) := by
  obtain ⟨m, o, rfl, h1, h2⟩ := h
  exact .tup (SqT.of h1) (.cons (.int _) (.cons (dp_ints_of (SqL.of h2)) .nil))
/-- ((waits, order), now, here) -/
def LvlAt (d : Disk) (l : List Ask) (G : Hp) (v : V) (os : List Nat) : Prop := ∃ t m, v = .ref t ∧ G t = some (.tup [.ref m, .int (endOf d l 0 d.he os).1, .int (endOf d l 0 d.he os).2]) ∧ SumAt d l G (.ref m) os
theorem lvlAt_same {d : Disk} {l : List Ask} {G G' : Hp} {v : V} {os : List Nat} (s : Same G G') (h : LvlAt d l G v os) : LvlAt d l G' v os := by
  obtain ⟨t, m, e, h1, h2⟩ := h
  exact ⟨t, m, e, s _ _ h1, sumAt_same s h2⟩
theorem take_flat {α β : Type} {f : α → List β} {l : List α} {i : Nat} {x : α} (h : l[i]? = some x) : (l.take (i + 1)).flatMap f = (l.take i).flatMap f ++ f x := by
  rw [take_more h, List.flatMap_append]
  simp
def moreTo (k : Nat) (os : List Nat) : List (List Nat) := ((List.range k).filter fun i => decide (i ∉ os)).map fun i => os ++ [i]
theorem moreTo_in {k : Nat} {os : List Nat} (h : k ∈ os) : moreTo (k + 1) os = moreTo k os := by
  unfold moreTo
  rw [List.range_succ, List.filter_append]
  simp [h]
theorem moreTo_out {k : Nat} {os : List Nat} (h : k ∉ os) : moreTo (k + 1) os = moreTo k os ++ [os ++ [k]] := by
  unfold moreTo
  rw [List.range_succ, List.filter_append]
  simp [h]
theorem nints_snoc (os : List Nat) (n : Nat) : (nints os).map V.int ++ [V.int (n : Int)] = (nints (os ++ [n])).map V.int := by
  unfold nints
  rw [List.map_append, List.map_append]
  rfl
end Ag

namespace Ag
open PySem PySem.Spec PyProof.Rows L2
/-! ### sorted(d), d a dict whose keys are pairs of ints -/
def keyOf (c : Int × Int) : List Key := [Sum.inl c.1, Sum.inl c.2]
theorem keyOf_inj {a b : Int × Int} (h : keyOf a = keyOf b) : a = b := by
  unfold keyOf at h
  injection h with h1 h2
  injection h2 with h2 _
  injection h1 with h1
  injection h2 with h2
  exact Prod.ext h1 h2
theorem keyOf_kV (c : Int × Int) : (keyOf c).map kV = [V.int c.1, V.int c.2] := rfl
def pairAt (H : Hp) (b : Addr) : Int × Int := match H b with
  | some (.tup [.int i, .int j]) => (i, j)
  | _ => (0, 0)
theorem pairAt_of {H : Hp} {b : Addr} {i j : Int} (h : H b = some (.tup [.int i, .int j])) : pairAt H b = (i, j) := by
  unfold pairAt
  rw [h]
def backA : Value → Addr
  | .ref a => a
  | _ => 0
def rSortedDT : List V → Hp → VK → Prop := fun vs H Q => ∃ (d : Addr) (kvs : List (List Key × V)) (cs : List (Int × Int)), vs = [.ref d] ∧ Rd H d (.dT kvs) ∧ kvs.map (·.1) = cs.map keyOf ∧
  ∀ (p : Addr) (as : List Addr), H p = none → (as.map (pairAt H)).Perm cs → (as.map (pairAt H)).Pairwise (fun x y => SrtO.lexB y x = false) → (∀ a ∈ as, H a = some (.tup [.int (pairAt H a).1, .int (pairAt H a).2])) → Q (.ref p) (upd H p (.lst (as.map V.ref)))
section
variable {X : Cx}
theorem keys_pairs {H : Hp} : ∀ {kvs : List (List Key × V)} {bs : List Addr} {cs : List (Int × Int)}, IsKeys H kvs bs → kvs.map (·.1) = cs.map keyOf → (∀ b ∈ bs, H b = some (.tup [.int (pairAt H b).1, .int (pairAt H b).2])) ∧ bs.map (pairAt H) = cs
  | [], [], [], _, _ => ⟨fun b hb => absurd hb (by simp), rfl⟩
  | [], [], _ :: _, _, e => by simp at e
  | p :: kvs, b :: bs, [], _, e => by simp at e
  | p :: kvs, b :: bs, c :: cs, h, e => by
    cases h with
    | cons h1 h2 =>
      rw [List.map_cons, List.map_cons] at e
      injection e with e1 e2
      obtain ⟨g1, g2⟩ := keys_pairs h2 e2
      rw [e1, keyOf_kV] at h1
      have hp : pairAt H b = c := pairAt_of h1
      refine ⟨fun x hx => ?_, by rw [List.map_cons, hp, g2]⟩
      rcases List.mem_cons.mp hx with rfl | hx
      · rw [hp]
        exact h1
      · exact g1 x hx
theorem cr_sortedDT (hc : X.calm = true) : CallR X (.builtin "sorted") rSortedDT := by
  intro pins s σ H xs us Q I r h
  obtain ⟨d, kvs, cs, rfl, hd, hks, q⟩ := h
  obtain ⟨u, rfl, rx⟩ := vals1 r
  cases rx
  obtain ⟨z, hs, ks, pr, o, es, ep, ho, hx, hdt, he, hn⟩ := (show ObjOk X.prog X.w H s.heap d (.dT kvs) from hd.ok I.hok)
  have l1 : es.size = ks.length := size_of_entries he
  have l2 : kvs.length = ks.length := Paired.length pr
  have hkeys := isKeys_of pr
  obtain ⟨hb1, hb2⟩ := keys_pairs hkeys hks
  refine Calls.call_function_entry PyProof.Rows.kind_sorted PyProof.Rows.plain_sorted PyProof.Rows.entry_sorted (PyProof.Rows.args_sorted1 _) ?_
  unfold Builtin.«sorted»
  refine wpAny_bind (m := checkCount "sorted" 1 1 _) (wpAny_pure ?_)
  refine wpAny_bind (PySem.W.kdu_collect (A := X.A.in1) (kdl_raw hs hx hdt) (I.ok.hd hc) ho (by omega) fun h' tk acc' hk it => ?_)
  have ea : acc'.toList = (ks.map fun x => x.2.1).map Value.ref := by
    rw [List.map_map]
    have hl : acc'.toList.length = ks.length := by rw [Array.length_toList, it.1]; exact l1
    apply List.ext_getElem?
    intro j
    rw [List.getElem?_map]
    cases hj : acc'.toList[j]? with
    | none =>
      have h1 := List.getElem?_eq_none_iff.mp hj
      rw [List.getElem?_eq_none (by omega)]
      rfl
    | some v =>
      obtain ⟨en, hen, hv⟩ := it.2 j v (by rw [← Array.getElem?_toList]; exact hj)
      have qe := entry_at he j
      rw [hen] at qe
      cases hb : ks[j]? with
      | none =>
        rw [hb] at qe
        exact nomatch (show some en = none from qe)
      | some b =>
        rw [hb] at qe
        have e2 : en = entryOfKey (tupleKind (mixKind X.prog X.w)) b := Option.some.inj qe
        rw [hv, e2]
        rfl
  have I1 : Inv X pins σ H { s with heap := h', toks := tk } := I.kept hk
  have hal : acc'.toList.length = ks.length := by rw [ea, List.length_map, List.length_map]
  have hz : acc'.toList.length ≤ sizeLine := by rw [hal]; omega
  refine wpAny_bind (wpAny_newList ?_ hz)
  have hoL : (h'.push (seqObj "list" acc'.toList.toArray 0)).get? h'.objs.size = some (seqObj "list" acc'.toList.toArray 0) := Heap.get?_push_size _ rfl
  show wpAny _ _ _ _ _ { s with heap := h'.push (seqObj "list" acc'.toList.toArray 0), toks := tk }
  have isp : ∀ v ∈ acc'.toList, Srt.IsPair (h'.push (seqObj "list" acc'.toList.toArray 0)) v (pairAt H (backA v)).1 (pairAt H (backA v)).2 := fun v hv => by
    rw [ea] at hv
    obtain ⟨b, hb, rfl⟩ := List.mem_map.mp hv
    have hH := hb1 b hb
    obtain ⟨_, its2, r2, o2, ho2, hc2, n2, hd2⟩ := (show ObjOk X.prog X.w H h' b (.tup [.int (pairAt H b).1, .int (pairAt H b).2]) from I1.hok b _ hH)
    obtain ⟨u1, u2, rfl, ri, rj⟩ := vals2 r2
    obtain ⟨t1, rfl⟩ := ri
    obtain ⟨t2, rfl⟩ := rj
    exact ⟨b, o2, t1, t2, n2, rfl, Heap.get?_push_of_some _ ho2, hc2, hd2⟩
  refine wpAny_bind (wpAny_holding (wpAny_call_entry PyProof.Rows.slot_list_sort ⟨_, hoL, rfl⟩ PyProof.Rows.entry_list_sort
    (SrtO.list_sort_ord (s := { s with heap := h'.push (seqObj "list" acc'.toList.toArray 0), toks := tk }) (ltv := fun v u => SrtO.lexB (pairAt H (backA v)) (pairAt H (backA u))) (SrtO.swo_lex fun v => pairAt H (backA v)) hoL hz (fun h2 => SrtO.pairs_sortableO (by omega) isp fun o e => ?_) fun out hs' hb => ⟨_, rfl, ?_⟩) (PyProof.Rows.args_list_sort _)))
  · have e' : some o = some (seqObj "list" acc'.toList.toArray 0) := e.symm.trans hoL
    cases e'
    intro c
    exact absurd (Value.type.inj c) (by decide)
  · obtain ⟨e', he'⟩ := PyProof.Rows.sortedHeap_at (vs := acc'.toList) (out := out.toArray) hoL
    have hperm : out.Perm acc'.toList := hb.perm
    have eo : out = (out.map backA).map Value.ref := by
      rw [List.map_map]
      refine (List.map_id out).symm.trans (List.map_congr_left fun v hv => ?_)
      have := hperm.mem_iff.mp hv
      rw [ea] at this
      obtain ⟨b, _, rfl⟩ := List.mem_map.mp this
      rfl
    have hmem : ∀ a ∈ out.map backA, a ∈ ks.map fun x => x.2.1 := fun a ha => by
      obtain ⟨v, hv, rfl⟩ := List.mem_map.mp ha
      have := hperm.mem_iff.mp hv
      rw [ea] at this
      obtain ⟨b, hb, rfl⟩ := List.mem_map.mp this
      exact hb
    have hlen : ((out.map backA).map V.ref).length ≤ sizeLine := by
      rw [List.length_map, List.length_map, hperm.length_eq]
      exact hz
    refine wpAny_pure ⟨_, rfl, .ref h'.objs.size, upd H h'.objs.size (.lst ((out.map backA).map V.ref)), I1.laid (t' := tk) (fun b u e => ?_) (Nat.le_refl _)
      (show ObjOk X.prog X.w _ _ _ (.lst ((out.map backA).map V.ref)) from ⟨hlen, out, e', by have hv := vals_refs (out.map backA); rw [← eo] at hv; exact hv, he'⟩), rfl, q _ _ (I1.hok.fresh (Nat.le_refl _)) ?_ ?_ fun a ha => hb1 a (hmem a ha)⟩
    · have hb : b < h'.objs.size := Heap.lt_size e
      rw [PyProof.Rows.sortedHeap_old (Nat.ne_of_lt hb) (by rw [size_push']; exact Nat.lt_succ_of_lt hb)]
      exact Heap.get?_push_of_some _ e
    · rw [← hb2]
      have hp2 := hperm.map backA
      rw [ea, List.map_map] at hp2
      have : (List.map (backA ∘ Value.ref) (ks.map fun x => x.2.1)) = ks.map fun x => x.2.1 := by
        rw [show (backA ∘ Value.ref) = id from rfl, List.map_id]
      rw [this] at hp2
      exact hp2.map _
    · rw [List.map_map, List.pairwise_map]
      exact hs'.imp fun h => h
end
end Ag

namespace Ag
open PySem PySem.Spec PyProof.Rows L2
/-! ### (way, longest wait) of an order; the best found so far -/
abbrev Cost := Int × Int
def costW (d : Disk) (l : List Ask) (os : List Nat) : Cost := (wayOf l d.he (rowsOf d l 0 d.he os), (waitsOf l (rowsOf d l 0 d.he os)).foldl imax 0)
theorem imax_eq (i j : Int) : imax i j = max i j := by
  unfold imax
  split <;> omega
theorem foldl_imax (l : List Int) (n : Int) : l.foldl imax n = l.foldl max n := by
  congr 1
  funext i j
  exact imax_eq i j
theorem costW_costs {d : Disk} (g : GoodDisk d) (l : List Ask) (os : List Nat) : costW d l os = ((costsOf d l (rowsOf d l 0 d.he os)).1, (costsOf d l (rowsOf d l 0 d.he os)).2.1) := by
  unfold costW costsOf
  rw [foldl_imax]
  have h := maxl_zero (waitsOf l (rowsOf d l 0 d.he os)) fun x hx => by
    have := rows_waits g l os 0 d.he x hx
    omega
  show (_, maxl (0 :: waitsOf l (rowsOf d l 0 d.he os))) = _
  rw [h]
theorem costW_snoc (d : Disk) (l : List Ask) (os : List Nat) (i : Nat) : costW d l (os ++ [i]) = ((costW d l os).1 + iabs ((l.getD i (0, 0, 0)).2.1 - (endOf d l 0 d.he os).2), imax (costW d l os).2 (serve d (endOf d l 0 d.he os).1 (endOf d l 0 d.he os).2 (l.getD i (0, 0, 0)) - (l.getD i (0, 0, 0)).1)) := by
  unfold costW
  rw [rowsOf_snoc, wayOf_snoc, end_here]
  unfold waitsOf
  rw [List.map_append, List.foldl_append]
  rfl
theorem costW_le (d : Disk) (l : List Ask) (os : List Nat) (i : Nat) : (costW d l os).1 ≤ (costW d l (os ++ [i])).1 ∧ (costW d l os).2 ≤ (costW d l (os ++ [i])).2 := by
  rw [costW_snoc]
  have := iabs_nn ((l.getD i (0, 0, 0)).2.1 - (endOf d l 0 d.he os).2)
  exact ⟨by show _ ≤ _ + _; omega, imax_l _ _⟩
abbrev Best := List (Cost × List Nat)
def look (B : Best) (c : Cost) : Option (List Nat) := (B.find? fun b => decide (b.1 = c)).map (·.2)
def putB (B : Best) (c : Cost) (os : List Nat) : Best := if (look B c).isNone then B ++ [(c, os)] else B
def strict (a b : Cost) : Bool := decide (a.1 < b.1) && decide (a.2 < b.2)
/-- as the program goes: k more numbers -/
def dfs (d : Disk) (l : List Ask) : Nat → List Nat → Best → Best
  | 0, os, B => putB B (costW d l os) os
  | k + 1, os, B => (List.range l.length).foldl (fun B i => if i ∈ os then B else if (B.any fun b => strict b.1 (costW d l (os ++ [i]))) = true then B else dfs d l k (os ++ [i]) B) B
/-- all orders that begin with os, k numbers more -/
def lv (n : Nat) : Nat → List Nat → List (List Nat)
  | 0, os => [os]
  | k + 1, os => (moreOf n os).flatMap (lv n k)
theorem lv_all (n : Nat) : ∀ (k j : Nat), (ordersK n j).flatMap (lv n k) = ordersK n (j + k)
  | 0, j => by
    show (ordersK n j).flatMap (fun os => [os]) = ordersK n j
    induction ordersK n j with
    | nil => rfl
    | cons x r ih => rw [List.flatMap_cons, ih]; rfl
  | k + 1, j => by
    have ih := lv_all n k (j + 1)
    show (ordersK n j).flatMap (fun os => (moreOf n os).flatMap (lv n k)) = _
    rw [← List.flatMap_assoc]
    show ((ordersK n j).flatMap (moreOf n)).flatMap (lv n k) = _
    rw [show (ordersK n j).flatMap (moreOf n) = ordersK n (j + 1) from rfl, ih]
    congr 1
    omega
theorem lv_root (n : Nat) : lv n n [] = ordersK n n := by
  have h := lv_all n n 0
  rw [Nat.zero_add] at h
  rw [← h]
  show _ = ([[]] : List (List Nat)).flatMap (lv n n)
  simp
theorem lv_is {n : Nat} : ∀ {k j : Nat} {os x : List Nat}, IsOrd n j os → x ∈ lv n k os → IsOrd n (j + k) x
  | 0, j, os, x, h, hx => by
    rw [List.mem_singleton.mp (show x ∈ [os] from hx)]
    exact h
  | k + 1, j, os, x, h, hx => by
    obtain ⟨o, ho, hx⟩ := List.mem_flatMap.mp hx
    obtain ⟨i, h1, h2, rfl⟩ := moreOf_mem.mp ho
    have ho' : IsOrd n (j + 1) (os ++ [i]) := by
      refine ⟨by rw [List.length_append, h.len]; rfl, fun m hm => ?_, ?_⟩
      · rcases List.mem_append.mp hm with hm | hm
        · exact h.lt m hm
        · rw [List.mem_singleton.mp hm]
          exact h1
      · rw [List.nodup_append]
        refine ⟨h.nd, by simp, fun a ha b hb => ?_⟩
        rw [List.mem_singleton.mp hb]
        exact fun e => h2 (e ▸ ha)
    have r := lv_is ho' hx
    have e : j + (k + 1) = j + 1 + k := by omega
    rw [e]
    exact r
theorem lv_le (d : Disk) (l : List Ask) : ∀ {k : Nat} {os x : List Nat}, x ∈ lv l.length k os → (costW d l os).1 ≤ (costW d l x).1 ∧ (costW d l os).2 ≤ (costW d l x).2
  | 0, os, x, hx => by
    rw [List.mem_singleton.mp (show x ∈ [os] from hx)]
    exact ⟨Int.le_refl _, Int.le_refl _⟩
  | k + 1, os, x, hx => by
    obtain ⟨o, ho, hx⟩ := List.mem_flatMap.mp hx
    obtain ⟨i, h1, h2, rfl⟩ := moreOf_mem.mp ho
    have a := costW_le d l os i
    have b := lv_le d l hx
    exact ⟨Int.le_trans a.1 b.1, Int.le_trans a.2 b.2⟩
/-- no order of all is as good in both and better in one -/
def Par (d : Disk) (l : List Ask) (c : Cost) : Prop := ∀ os ∈ ordersK l.length l.length, (costW d l os).1 ≤ c.1 → (costW d l os).2 ≤ c.2 → costW d l os = c
def firstOf (d : Disk) (l : List Ask) (S : List (List Nat)) (c : Cost) : Option (List Nat) := S.find? fun os => decide (costW d l os = c)
structure BInv (d : Disk) (l : List Ask) (S : List (List Nat)) (B : Best) : Prop where
  src : ∀ b ∈ B, b.2 ∈ S ∧ b.1 = costW d l b.2
  nd : (B.map (·.1)).Nodup
  par : ∀ c, Par d l c → look B c = firstOf d l S c
theorem look_none {B : Best} {c : Cost} : look B c = none ↔ c ∉ B.map (·.1) := by
  unfold look
  rw [Option.map_eq_none_iff, List.find?_eq_none]
  constructor
  · intro h hc
    obtain ⟨b, hb, rfl⟩ := List.mem_map.mp hc
    exact h b hb (by simp)
  · intro h b hb e
    exact h (List.mem_map.mpr ⟨b, hb, by simpa using e⟩)
theorem look_snoc (B : Best) (c c' : Cost) (os : List Nat) : look (B ++ [(c', os)]) c = (look B c).or (if c' = c then some os else none) := by
  unfold look
  rw [List.find?_append]
  cases h : B.find? (fun b => decide (b.1 = c)) with
  | some b => rfl
  | none =>
    by_cases e : c' = c
    · simp [e]
    · simp [e]
theorem firstOf_snoc (d : Disk) (l : List Ask) (S : List (List Nat)) (os : List Nat) (c : Cost) : firstOf d l (S ++ [os]) c = (firstOf d l S c).or (if costW d l os = c then some os else none) := by
  unfold firstOf
  rw [List.find?_append]
  cases h : S.find? (fun os => decide (costW d l os = c)) with
  | some b => rfl
  | none =>
    by_cases e : costW d l os = c
    · simp [e]
    · simp [e]
theorem binv_put {d : Disk} {l : List Ask} {S : List (List Nat)} {B : Best} (I : BInv d l S B) (os : List Nat) : BInv d l (S ++ [os]) (putB B (costW d l os) os) := by
  unfold putB
  by_cases h : (look B (costW d l os)).isNone = true
  · rw [if_pos h]
    have h0 : look B (costW d l os) = none := Option.isNone_iff_eq_none.mp h
    refine ⟨fun b hb => ?_, ?_, fun c hc => ?_⟩
    · rcases List.mem_append.mp hb with hb | hb
      · exact ⟨List.mem_append_left _ (I.src b hb).1, (I.src b hb).2⟩
      · rw [List.mem_singleton.mp hb]
        exact ⟨List.mem_append_right _ (List.mem_singleton.mpr rfl), rfl⟩
    · rw [List.map_append, List.nodup_append]
      refine ⟨I.nd, by simp, fun a ha b hb e => ?_⟩
      have eb : b = costW d l os := List.mem_singleton.mp (show b ∈ [costW d l os] from hb)
      exact look_none.mp h0 (by rw [← eb, ← e]; exact ha)
    · rw [look_snoc, firstOf_snoc, I.par c hc]
  · rw [if_neg h]
    refine ⟨fun b hb => ⟨List.mem_append_left _ (I.src b hb).1, (I.src b hb).2⟩, I.nd, fun c hc => ?_⟩
    rw [firstOf_snoc, ← I.par c hc]
    by_cases e : costW d l os = c
    · rw [if_pos e]
      cases hl : look B c with
      | none =>
        rw [e, hl] at h
        exact absurd rfl h
      | some x => rfl
    · rw [if_neg e]
      cases look B c <;> rfl
/-- orders that cannot be the first of a cost that counts may be passed over -/
theorem binv_skip {d : Disk} {l : List Ask} {S M : List (List Nat)} {B : Best} (I : BInv d l S B) (h : ∀ c, Par d l c → ∀ os ∈ M, costW d l os ≠ c) : BInv d l (S ++ M) B := by
  refine ⟨fun b hb => ⟨List.mem_append_left _ (I.src b hb).1, (I.src b hb).2⟩, I.nd, fun c hc => ?_⟩
  rw [I.par c hc]
  unfold firstOf
  rw [List.find?_append]
  have e : M.find? (fun os => decide (costW d l os = c)) = none := List.find?_eq_none.mpr fun os hos z => h c hc os hos (by simpa using z)
  rw [e]
  cases S.find? (fun os => decide (costW d l os = c)) <;> rfl
theorem foldl_range {β : Type} (f : β → Nat → β) (n : Nat) (b : β) : (List.range (n + 1)).foldl f b = f ((List.range n).foldl f b) n := by
  rw [List.range_succ, List.foldl_append]
  rfl
theorem dfs_inv (d : Disk) (l : List Ask) : ∀ (k j : Nat) (os : List Nat) (S : List (List Nat)) (B : Best), j + k = l.length → IsOrd l.length j os → (∀ x ∈ S, x ∈ ordersK l.length l.length) → BInv d l S B → BInv d l (S ++ lv l.length k os) (dfs d l k os B)
  | 0, j, os, S, B, hj, ho, hS, I => binv_put I os
  | k + 1, j, os, S, B, hj, ho, hS, I => by
    have go : ∀ m, m ≤ l.length → BInv d l (S ++ (moreTo m os).flatMap (lv l.length k)) ((List.range m).foldl (fun B i => if i ∈ os then B else if (B.any fun b => strict b.1 (costW d l (os ++ [i]))) = true then B else dfs d l k (os ++ [i]) B) B) := by
      intro m
      induction m with
      | zero =>
        intro _
        show BInv d l (S ++ []) B
        rw [List.append_nil]
        exact I
      | succ m ih =>
        intro hm
        have ih := ih (by omega)
        rw [foldl_range]
        by_cases hmo : m ∈ os
        · rw [if_pos hmo, moreTo_in hmo]
          exact ih
        · rw [if_neg hmo, moreTo_out hmo, List.flatMap_append, ← List.append_assoc]
          have e1 : ([os ++ [m]] : List (List Nat)).flatMap (lv l.length k) = lv l.length k (os ++ [m]) := by simp
          rw [e1]
          have ho' : IsOrd l.length (j + 1) (os ++ [m]) := by
            refine ⟨by rw [List.length_append, ho.len]; rfl, fun i hi => ?_, ?_⟩
            · rcases List.mem_append.mp hi with hi | hi
              · exact ho.lt i hi
              · rw [List.mem_singleton.mp hi]
                omega
            · rw [List.nodup_append]
              refine ⟨ho.nd, by simp, fun a ha b hb => ?_⟩
              rw [List.mem_singleton.mp hb]
              exact fun e => hmo (e ▸ ha)
          have hS' : ∀ x ∈ S ++ (moreTo m os).flatMap (lv l.length k), x ∈ ordersK l.length l.length := fun x hx => by
            rcases List.mem_append.mp hx with hx | hx
            · exact hS x hx
            · obtain ⟨o, ho1, hx⟩ := List.mem_flatMap.mp hx
              obtain ⟨i, h1, h2, rfl⟩ := moreOf_mem.mp (show o ∈ moreOf m os from ho1)
              have : x ∈ lv l.length (k + 1) os := List.mem_flatMap.mpr ⟨_, moreOf_mem.mpr ⟨i, by omega, h2, rfl⟩, hx⟩
              have r := lv_is ho this
              rw [hj] at r
              exact ordersK_of r
          by_cases hp : ((((List.range m).foldl (fun B i => if i ∈ os then B else if (B.any fun b => strict b.1 (costW d l (os ++ [i]))) = true then B else dfs d l k (os ++ [i]) B) B)).any fun b => strict b.1 (costW d l (os ++ [m]))) = true
          · rw [if_pos hp]
            refine binv_skip ih fun c hc x hx e => ?_
            obtain ⟨b, hb, hst⟩ := List.any_eq_true.mp hp
            obtain ⟨b1, b2⟩ := ih.src b hb
            have hle := lv_le d l hx
            unfold strict at hst
            rw [Bool.and_eq_true, decide_eq_true_eq, decide_eq_true_eq] at hst
            rw [e] at hle
            have hb' := hc b.2 (hS' _ b1)
            rw [← b2] at hb'
            have := hb' (by omega) (by omega)
            rw [this] at hst
            omega
          · rw [if_neg hp]
            exact dfs_inv d l k (j + 1) (os ++ [m]) _ _ (by omega) ho' hS' ih
    exact go l.length (Nat.le_refl _)
theorem putB_len (B : Best) (c : Cost) (os : List Nat) : (putB B c os).length ≤ B.length + 1 := by
  unfold putB
  split
  · rw [List.length_append]
    exact Nat.le_refl _
  · exact Nat.le_succ _
theorem dfs_len (d : Disk) (l : List Ask) : ∀ (k : Nat) (os : List Nat) (B : Best) , (dfs d l k os B).length ≤ B.length + (lv l.length k os).length
  | 0, os, B => putB_len B _ os
  | k + 1, os, B => by
    have go : ∀ m, ((List.range m).foldl (fun B i => if i ∈ os then B else if (B.any fun b => strict b.1 (costW d l (os ++ [i]))) = true then B else dfs d l k (os ++ [i]) B) B).length ≤ B.length + ((moreTo m os).flatMap (lv l.length k)).length := by
      intro m
      induction m with
      | zero => exact Nat.le_add_right _ _
      | succ m ih =>
        rw [foldl_range]
        by_cases hmo : m ∈ os
        · rw [if_pos hmo, moreTo_in hmo]
          exact ih
        · rw [if_neg hmo, moreTo_out hmo, List.flatMap_append, List.length_append]
          split
          · omega
          · have h := dfs_len d l k (os ++ [m]) ((List.range m).foldl (fun B i => if i ∈ os then B else if (B.any fun b => strict b.1 (costW d l (os ++ [i]))) = true then B else dfs d l k (os ++ [i]) B) B)
            have e1 : ([os ++ [m]] : List (List Nat)).flatMap (lv l.length k) = lv l.length k (os ++ [m]) := by simp
            rw [e1]
            omega
    exact go l.length
/-! ### what is worth choosing -/
/-- rising: by way, then by longest wait -/
def Rising (a b : Cost) : Prop := a.1 < b.1 ∨ (a.1 = b.1 ∧ a.2 < b.2)
def scan : Option Int → List Cost → List Cost
  | _, [] => []
  | none, c :: r => c :: scan (some c.2) r
  | some m, c :: r => if c.2 < m then c :: scan (some c.2) r else scan (some m) r
theorem scan_sub : ∀ (ks : List Cost) (m : Option Int), (scan m ks).Sublist ks
  | [], m => by cases m <;> exact List.Sublist.slnil
  | c :: r, none => (scan_sub r _).cons_cons c
  | c :: r, some m => by
    unfold scan
    split
    · exact (scan_sub r _).cons_cons c
    · exact (scan_sub r _).cons c
theorem scan_mem : ∀ (ks : List Cost) (m : Option Int) (x : Cost), ks.Pairwise Rising → (x ∈ scan m ks ↔ x ∈ ks ∧ (∀ m', m = some m' → x.2 < m') ∧ ∀ c ∈ ks, c.1 ≤ x.1 → c.2 ≤ x.2 → c = x)
  | [], m, x, _ => by cases m <;> simp [scan]
  | c :: r, m, x, hp => by
    obtain ⟨hc, hr⟩ := List.pairwise_cons.mp hp
    have kept : (∀ m', m = some m' → c.2 < m') → (x ∈ c :: scan (some c.2) r ↔ x ∈ c :: r ∧ (∀ m', m = some m' → x.2 < m') ∧ ∀ c' ∈ c :: r, c'.1 ≤ x.1 → c'.2 ≤ x.2 → c' = x) := by
      intro hm
      rw [List.mem_cons, scan_mem r (some c.2) x hr]
      constructor
      · rintro (rfl | ⟨h1, h2, h3⟩)
        · refine ⟨List.mem_cons_self, hm, fun c' hc' a b => ?_⟩
          rcases List.mem_cons.mp hc' with e | hc'
          · exact e
          · have := hc c' hc'
            unfold Rising at this
            omega
        · have h2 := h2 c.2 rfl
          refine ⟨List.mem_cons_of_mem _ h1, fun m' e => ?_, fun c' hc' a b => ?_⟩
          · have := hm m' e
            omega
          · rcases List.mem_cons.mp hc' with e | hc'
            · subst e
              omega
            · exact h3 c' hc' a b
      · rintro ⟨h1, h2, h3⟩
        rcases List.mem_cons.mp h1 with e | h1
        · exact .inl e
        · refine .inr ⟨h1, fun m' e => ?_, fun c' hc' => h3 c' (List.mem_cons_of_mem _ hc')⟩
          cases e
          have hx := hc x h1
          unfold Rising at hx
          by_cases hlt : x.2 < c.2
          · exact hlt
          · have := h3 c List.mem_cons_self (by omega) (by omega)
            subst this
            omega
    cases m with
    | none => exact kept fun m' e => by cases e
    | some m =>
      unfold scan
      by_cases h : c.2 < m
      · rw [if_pos h]
        exact kept fun m' e => by cases e; exact h
      · rw [if_neg h, scan_mem r (some m) x hr]
        constructor
        · rintro ⟨h1, h2, h3⟩
          have h2 := h2 m rfl
          refine ⟨List.mem_cons_of_mem _ h1, fun m' e => by cases e; exact h2, fun c' hc' a b => ?_⟩
          rcases List.mem_cons.mp hc' with e | hc'
          · subst e
            omega
          · exact h3 c' hc' a b
        · rintro ⟨h1, h2, h3⟩
          have h2 := h2 m rfl
          rcases List.mem_cons.mp h1 with e | h1
          · subst e
            omega
          · exact ⟨h1, fun m' e => by cases e; exact h2, fun c' hc' => h3 c' (List.mem_cons_of_mem _ hc')⟩
theorem rising_same : ∀ {a b : List Cost}, a.Pairwise Rising → b.Pairwise Rising → (∀ x, x ∈ a ↔ x ∈ b) → a = b
  | [], [], _, _, _ => rfl
  | [], y :: b, _, _, h => absurd ((h y).mpr List.mem_cons_self) (by simp)
  | x :: a, [], _, _, h => absurd ((h x).mp List.mem_cons_self) (by simp)
  | x :: a, y :: b, ha, hb, h => by
    obtain ⟨ha1, ha2⟩ := List.pairwise_cons.mp ha
    obtain ⟨hb1, hb2⟩ := List.pairwise_cons.mp hb
    have e : x = y := by
      rcases List.mem_cons.mp ((h x).mp List.mem_cons_self) with e | hx
      · exact e
      · rcases List.mem_cons.mp ((h y).mpr List.mem_cons_self) with e | hy
        · exact e.symm
        · have a1 := hb1 x hx
          have a2 := ha1 y hy
          unfold Rising at a1 a2
          omega
    subst e
    have ht : ∀ z, z ∈ a ↔ z ∈ b := fun z => by
      have n1 : ∀ w ∈ a, w ≠ x := fun w hw e => by
        have := ha1 w hw
        rw [e] at this
        unfold Rising at this
        omega
      have n2 : ∀ w ∈ b, w ≠ x := fun w hw e => by
        have := hb1 w hw
        rw [e] at this
        unfold Rising at this
        omega
      constructor
      · intro hz
        rcases List.mem_cons.mp ((h z).mp (List.mem_cons_of_mem _ hz)) with e | hz'
        · exact absurd e (n1 z hz)
        · exact hz'
      · intro hz
        rcases List.mem_cons.mp ((h z).mpr (List.mem_cons_of_mem _ hz)) with e | hz'
        · exact absurd e (n2 z hz)
        · exact hz'
    rw [rising_same ha2 hb2 ht]
theorem rising_of {ks : List Cost} (nd : ks.Nodup) (s : ks.Pairwise fun x y => SrtO.lexB y x = false) : ks.Pairwise Rising := by
  refine (List.pairwise_and_iff.mpr ⟨nd, s⟩).imp fun {a b} h => ?_
  obtain ⟨h1, h2⟩ := h
  have h3 := SrtO.lexB_no.mp h2
  unfold Rising
  by_cases e : a.1 = b.1
  · by_cases e2 : a.2 = b.2
    · exact absurd (Prod.ext e e2) h1
    · omega
  · omega
/-- what front tells: each cost that counts, rising, with its first order -/
def IsFront (d : Disk) (l : List Ask) (F : List (Cost × List Nat)) : Prop := (F.map (·.1)).Pairwise Rising ∧ (∀ c, c ∈ F.map (·.1) ↔ (Par d l c ∧ ∃ os ∈ ordersK l.length l.length, costW d l os = c)) ∧ ∀ e ∈ F, firstOf d l (ordersK l.length l.length) e.1 = some e.2
theorem front_unique {d : Disk} {l : List Ask} {F G : List (Cost × List Nat)} (hF : IsFront d l F) (hG : IsFront d l G) : F = G := by
  have h1 : F.map (·.1) = G.map (·.1) := rising_same hF.1 hG.1 fun c => (hF.2.1 c).trans (hG.2.1 c).symm
  have h2 : ∀ (F G : List (Cost × List Nat)), F.map (·.1) = G.map (·.1) → (∀ e ∈ F, firstOf d l (ordersK l.length l.length) e.1 = some e.2) → (∀ e ∈ G, firstOf d l (ordersK l.length l.length) e.1 = some e.2) → F = G := by
    intro F
    induction F with
    | nil =>
      intro G e _ _
      cases G with
      | nil => rfl
      | cons y r => simp at e
    | cons x r ih =>
      intro G e a b
      cases G with
      | nil => simp at e
      | cons y r' =>
        rw [List.map_cons, List.map_cons] at e
        injection e with e1 e2
        have a1 := a x List.mem_cons_self
        have b1 := b y List.mem_cons_self
        rw [e1, b1] at a1
        have e3 : x = y := Prod.ext e1 (Option.some.inj a1).symm
        rw [e3, ih r' e2 (fun z hz => a z (List.mem_cons_of_mem _ hz)) (fun z hz => b z (List.mem_cons_of_mem _ hz))]
  exact h2 F G h1 hF.2.2 hG.2.2
/-- some cost that counts is as good as any -/
theorem par_below (d : Disk) (l : List Ask) : ∀ (S : List (List Nat)), (∀ x ∈ S, x ∈ ordersK l.length l.length) → ∀ os ∈ ordersK l.length l.length, ∃ o ∈ ordersK l.length l.length, Par d l (costW d l o) ∧ (costW d l o).1 ≤ (costW d l os).1 ∧ (costW d l o).2 ≤ (costW d l os).2 := by
  intro S _ os hos
  -- the least of way, then of longest wait, of all that are as good
  have key : ∀ (M : List (List Nat)), M ≠ [] → ∃ o ∈ M, ∀ p ∈ M, ¬ Rising (costW d l p) (costW d l o) := by
    intro M
    induction M with
    | nil => intro h; exact absurd rfl h
    | cons x r ih =>
      intro _
      by_cases hr : r = []
      · subst hr
        refine ⟨x, List.mem_cons_self, fun p hp h => ?_⟩
        rw [List.mem_singleton.mp hp] at h
        unfold Rising at h
        omega
      · obtain ⟨o, ho, hmin⟩ := ih hr
        by_cases hx : Rising (costW d l x) (costW d l o)
        · refine ⟨x, List.mem_cons_self, fun p hp h => ?_⟩
          rcases List.mem_cons.mp hp with e | hp
          · rw [e] at h
            unfold Rising at h
            omega
          · have := hmin p hp
            unfold Rising at h hx this
            omega
        · refine ⟨o, List.mem_cons_of_mem _ ho, fun p hp h => ?_⟩
          rcases List.mem_cons.mp hp with e | hp
          · rw [e] at h
            exact hx h
          · exact hmin p hp h
  have hM : (ordersK l.length l.length).filter (fun p => decide ((costW d l p).1 ≤ (costW d l os).1) && decide ((costW d l p).2 ≤ (costW d l os).2)) ≠ [] := by
    refine List.ne_nil_of_mem (a := os) (List.mem_filter.mpr ⟨hos, ?_⟩)
    simp
  obtain ⟨o, ho, hmin⟩ := key _ hM
  obtain ⟨h1, h2⟩ := List.mem_filter.mp ho
  rw [Bool.and_eq_true, decide_eq_true_eq, decide_eq_true_eq] at h2
  refine ⟨o, h1, fun p hp a b => ?_, h2.1, h2.2⟩
  have hpM : p ∈ (ordersK l.length l.length).filter (fun p => decide ((costW d l p).1 ≤ (costW d l os).1) && decide ((costW d l p).2 ≤ (costW d l os).2)) := by
    refine List.mem_filter.mpr ⟨hp, ?_⟩
    rw [Bool.and_eq_true, decide_eq_true_eq, decide_eq_true_eq]
    omega
  have := hmin p hpM
  unfold Rising at this
  by_cases e1 : (costW d l p).1 = (costW d l o).1
  · by_cases e2 : (costW d l p).2 = (costW d l o).2
    · exact Prod.ext e1 e2
    · omega
  · omega
theorem firstOf_some {d : Disk} {l : List Ask} {S : List (List Nat)} {c : Cost} {os : List Nat} (h : firstOf d l S c = some os) : os ∈ S ∧ costW d l os = c := by
  unfold firstOf at h
  exact ⟨List.mem_of_find?_eq_some h, by have := List.find?_some h; simpa using this⟩
theorem look_mem {B : Best} {c : Cost} {os : List Nat} (h : look B c = some os) : (c, os) ∈ B := by
  unfold look at h
  cases e : B.find? (fun b => decide (b.1 = c)) with
  | none =>
    rw [e] at h
    cases h
  | some b =>
    rw [e] at h
    have h1 := List.mem_of_find?_eq_some e
    have h2 := List.find?_some e
    have h3 : b.1 = c := by simpa using h2
    have h4 : b.2 = os := Option.some.inj h
    have : b = (c, os) := Prod.ext h3 h4
    rw [← this]
    exact h1
/-- what the program's scan keeps is the front -/
theorem front_of {d : Disk} {l : List Ask} {B : Best} (I : BInv d l (ordersK l.length l.length) B) {ks : List Cost} (hp : ks.Perm (B.map (·.1))) (hs : ks.Pairwise fun x y => SrtO.lexB y x = false) : IsFront d l ((scan none ks).map fun c => (c, (look B c).getD [])) := by
  have hr := rising_of (hp.nodup_iff.mpr I.nd) hs
  have em : ((scan none ks).map fun c => (c, (look B c).getD [])).map (·.1) = scan none ks := by
    rw [List.map_map]
    exact List.map_id _
  have key : ∀ c, c ∈ scan none ks ↔ (Par d l c ∧ ∃ os ∈ ordersK l.length l.length, costW d l os = c) := by
    intro c
    rw [scan_mem ks none c hr]
    constructor
    · rintro ⟨h1, _, h3⟩
      obtain ⟨b, hb, rfl⟩ := List.mem_map.mp (hp.mem_iff.mp h1)
      obtain ⟨b1, b2⟩ := I.src b hb
      refine ⟨fun os hos a b' => ?_, b.2, b1, b2.symm⟩
      obtain ⟨o, ho, po, o1, o2⟩ := par_below d l [] (fun x hx => absurd hx (by simp)) os hos
      have hf : firstOf d l (ordersK l.length l.length) (costW d l o) ≠ none := by
        unfold firstOf
        rw [Ne, List.find?_eq_none]
        intro h
        exact h o ho (by simp)
      rw [← I.par _ po] at hf
      have hin : costW d l o ∈ B.map (·.1) := by
        by_cases z : costW d l o ∈ B.map (·.1)
        · exact z
        · exact absurd (look_none.mpr z) hf
      have e := h3 (costW d l o) (hp.mem_iff.mpr hin) (by omega) (by omega)
      rw [e] at o1 o2
      exact Prod.ext (by omega) (by omega)
    · rintro ⟨pc, os, hos, rfl⟩
      have hf : firstOf d l (ordersK l.length l.length) (costW d l os) ≠ none := by
        unfold firstOf
        rw [Ne, List.find?_eq_none]
        intro h
        exact h os hos (by simp)
      rw [← I.par _ pc] at hf
      have hin : costW d l os ∈ B.map (·.1) := by
        by_cases z : costW d l os ∈ B.map (·.1)
        · exact z
        · exact absurd (look_none.mpr z) hf
      refine ⟨hp.mem_iff.mpr hin, fun m' e => (by cases e), fun c' hc' a b => ?_⟩
      obtain ⟨b0, hb0, rfl⟩ := List.mem_map.mp (hp.mem_iff.mp hc')
      obtain ⟨b1, b2⟩ := I.src b0 hb0
      rw [b2] at a b ⊢
      exact pc b0.2 b1 a b
  refine ⟨by rw [em]; exact hr.sublist (scan_sub ks none), fun c => by rw [em]; exact key c, fun e he => ?_⟩
  obtain ⟨c, hc, rfl⟩ := List.mem_map.mp he
  obtain ⟨pc, os, hos, ec⟩ := (key c).mp hc
  have hl := I.par c pc
  show firstOf d l _ c = some ((look B c).getD [])
  rw [hl]
  cases hf : firstOf d l (ordersK l.length l.length) c with
  | some x => rfl
  | none =>
    unfold firstOf at hf
    exact absurd (by simpa using ec) (List.find?_eq_none.mp hf os hos)
/-! ### what the law keeps is the front, too -/
def knownOf (d : Disk) (l : List Ask) (S : List (List Nat)) : Best := S.foldl (fun B os => putB B (costW d l os) os) []
theorem known_snoc (d : Disk) (l : List Ask) (S : List (List Nat)) (os : List Nat) : knownOf d l (S ++ [os]) = putB (knownOf d l S) (costW d l os) os := by
  unfold knownOf
  rw [List.foldl_append]
  rfl
structure KInv (d : Disk) (l : List Ask) (S : List (List Nat)) (B : Best) : Prop where
  src : ∀ b ∈ B, b.2 ∈ S ∧ b.1 = costW d l b.2
  nd : (B.map (·.1)).Nodup
  all : ∀ c, look B c = firstOf d l S c
theorem kinv_put {d : Disk} {l : List Ask} {S : List (List Nat)} {B : Best} (I : KInv d l S B) (os : List Nat) : KInv d l (S ++ [os]) (putB B (costW d l os) os) := by
  unfold putB
  by_cases h : (look B (costW d l os)).isNone = true
  · rw [if_pos h]
    have h0 : look B (costW d l os) = none := Option.isNone_iff_eq_none.mp h
    refine ⟨fun b hb => ?_, ?_, fun c => ?_⟩
    · rcases List.mem_append.mp hb with hb | hb
      · exact ⟨List.mem_append_left _ (I.src b hb).1, (I.src b hb).2⟩
      · rw [List.mem_singleton.mp hb]
        exact ⟨List.mem_append_right _ (List.mem_singleton.mpr rfl), rfl⟩
    · rw [List.map_append, List.nodup_append]
      refine ⟨I.nd, by simp, fun a ha b hb e => ?_⟩
      have eb : b = costW d l os := List.mem_singleton.mp (show b ∈ [costW d l os] from hb)
      exact look_none.mp h0 (by rw [← eb, ← e]; exact ha)
    · rw [look_snoc, firstOf_snoc, I.all c]
  · rw [if_neg h]
    refine ⟨fun b hb => ⟨List.mem_append_left _ (I.src b hb).1, (I.src b hb).2⟩, I.nd, fun c => ?_⟩
    rw [firstOf_snoc, ← I.all c]
    by_cases e : costW d l os = c
    · rw [if_pos e]
      cases hl : look B c with
      | none =>
        rw [e, hl] at h
        exact absurd rfl h
      | some x => rfl
    · rw [if_neg e]
      cases look B c <;> rfl
theorem known_inv (d : Disk) (l : List Ask) (S : List (List Nat)) : KInv d l S (knownOf d l S) := by
  have go : ∀ (R S : List (List Nat)) (B : Best), KInv d l S B → KInv d l (S ++ R) (R.foldl (fun B os => putB B (costW d l os) os) B) := by
    intro R
    induction R with
    | nil =>
      intro S B I
      rw [List.append_nil]
      exact I
    | cons x r ih =>
      intro S B I
      have h := ih (S ++ [x]) _ (kinv_put I x)
      rw [List.append_assoc] at h
      exact h
  exact go S [] [] ⟨fun b hb => absurd hb (by simp), List.nodup_nil, fun c => rfl⟩
theorem known_len (d : Disk) (l : List Ask) (S : List (List Nat)) : (knownOf d l S).length ≤ S.length := by
  have go : ∀ (R : List (List Nat)) (B : Best), (R.foldl (fun B os => putB B (costW d l os) os) B).length ≤ B.length + R.length := by
    intro R
    induction R with
    | nil => intro B; exact Nat.le_refl _
    | cons x r ih =>
      intro B
      have h1 := ih (putB B (costW d l x) x)
      have h2 := putB_len B (costW d l x) x
      rw [List.length_cons]
      exact Nat.le_trans h1 (by omega)
  have := go S []
  unfold knownOf
  simpa using this
/-- no other cost is as good in both -/
def loneB (B : Best) (c : Cost) : Bool := B.all fun b => !(!decide (b.1 = c) && (decide (b.1.1 ≤ c.1) && decide (b.1.2 ≤ c.2)))
theorem due_front {d : Disk} {l : List Ask} {ks : List Cost} (hp : ks.Perm ((knownOf d l (ordersK l.length l.length)).map (·.1))) (hs : ks.Pairwise fun x y => SrtO.lexB y x = false) :
    IsFront d l ((ks.filter (loneB (knownOf d l (ordersK l.length l.length)))).map fun c => (c, (look (knownOf d l (ordersK l.length l.length)) c).getD [])) := by
  have I := known_inv d l (ordersK l.length l.length)
  revert hp I
  generalize knownOf d l (ordersK l.length l.length) = B
  intro hp I
  have hr := rising_of (hp.nodup_iff.mpr I.nd) hs
  have em : ((ks.filter (loneB B)).map fun c => (c, (look B c).getD [])).map (·.1) = ks.filter (loneB B) := by
    rw [List.map_map]
    exact List.map_id _
  have at_ : ∀ os ∈ ordersK l.length l.length, costW d l os ∈ B.map (·.1) := fun os hos => by
    by_cases z : costW d l os ∈ B.map (·.1)
    · exact z
    · have h := look_none.mpr z
      rw [I.all] at h
      unfold firstOf at h
      exact absurd (by simp) (List.find?_eq_none.mp h os hos)
  have key : ∀ c, c ∈ ks.filter (loneB B) ↔ (Par d l c ∧ ∃ os ∈ ordersK l.length l.length, costW d l os = c) := by
    intro c
    rw [List.mem_filter]
    constructor
    · rintro ⟨h1, h2⟩
      obtain ⟨b, hb, rfl⟩ := List.mem_map.mp (hp.mem_iff.mp h1)
      obtain ⟨b1, b2⟩ := I.src b hb
      refine ⟨fun os hos x y => ?_, b.2, b1, b2.symm⟩
      obtain ⟨b', hb', e⟩ := List.mem_map.mp (at_ os hos)
      unfold loneB at h2
      have h3 := List.all_eq_true.mp h2 b' hb'
      rw [e] at h3
      by_cases z : costW d l os = b.1
      · exact z
      · rw [decide_eq_false z, decide_eq_true x, decide_eq_true y] at h3
        cases h3
    · rintro ⟨pc, os, hos, rfl⟩
      refine ⟨hp.mem_iff.mpr (at_ os hos), ?_⟩
      unfold loneB
      refine List.all_eq_true.mpr fun b hb => ?_
      obtain ⟨b1, b2⟩ := I.src b hb
      by_cases z : b.1 = costW d l os
      · rw [decide_eq_true z]
        rfl
      · rw [decide_eq_false z]
        by_cases x : b.1.1 ≤ (costW d l os).1
        · by_cases y : b.1.2 ≤ (costW d l os).2
          · rw [b2] at x y z
            exact absurd (pc b.2 b1 x y) z
          · rw [decide_eq_false y]
            simp
        · rw [decide_eq_false x]
          simp
  refine ⟨by rw [em]; exact hr.sublist List.filter_sublist, fun c => by rw [em]; exact key c, fun e he => ?_⟩
  obtain ⟨c, hc, rfl⟩ := List.mem_map.mp he
  obtain ⟨pc, os, hos, ec⟩ := (key c).mp hc
  show firstOf d l _ c = some ((look B c).getD [])
  rw [I.all]
  cases hf : firstOf d l (ordersK l.length l.length) c with
  | some x => rfl
  | none =>
    unfold firstOf at hf
    exact absurd (by simpa using ec) (List.find?_eq_none.mp hf os hos)
end Ag

namespace Ag
open PySem PySem.Spec PyProof.Rows L2
/-! ### the dict of costs in the heap -/
def KvAt (G : Hp) (e : List Key × V) (b : Cost × List Nat) : Prop := e.1 = keyOf b.1 ∧ OrdAt G e.2 b.2
theorem kvAt_same {G G' : Hp} {e : List Key × V} {b : Cost × List Nat} (s : Same G G') (h : KvAt G e b) : KvAt G' e b := ⟨h.1, ordAt_same s h.2⟩
theorem kv_none {G : Hp} {c : Cost} : ∀ {kvs : List (List Key × V)} {B : Best}, All2 (KvAt G) kvs B → ((valV kvs (keyOf c)).isSome = (look B c).isSome)
  | [], [], _ => rfl
  | e :: kvs, b :: B, h => by
    have ih := kv_none (c := c) h.2
    by_cases z : b.1 = c
    · have e1 : e.1 = keyOf c := by rw [h.1.1, z]
      rw [valV_pos e1]
      unfold look
      simp [z]
    · have e1 : ¬ e.1 = keyOf c := fun q => z (keyOf_inj (h.1.1.symm.trans q))
      rw [valV_neg e1, ih]
      unfold look
      simp [z]
  | [], _ :: _, h => h.elim
  | _ :: _, [], h => h.elim
theorem kv_some {G : Hp} {c : Cost} : ∀ {kvs : List (List Key × V)} {B : Best} {os : List Nat}, All2 (KvAt G) kvs B → look B c = some os → ∃ v, valV kvs (keyOf c) = some v ∧ OrdAt G v os
  | [], [], _, _, e => by simp [look] at e
  | e :: kvs, b :: B, os, h, hl => by
    by_cases z : b.1 = c
    · have e1 : e.1 = keyOf c := by rw [h.1.1, z]
      refine ⟨e.2, valV_pos e1, ?_⟩
      unfold look at hl
      simp [z] at hl
      rw [← hl]
      exact h.1.2
    · have e1 : ¬ e.1 = keyOf c := fun q => z (keyOf_inj (h.1.1.symm.trans q))
      have hl' : look B c = some os := by
        unfold look at hl ⊢
        simpa [z] using hl
      obtain ⟨v, h1, h2⟩ := kv_some h.2 hl'
      exact ⟨v, by rw [valV_neg e1]; exact h1, h2⟩
  | [], _ :: _, _, h, _ => h.elim
  | _ :: _, [], _, h, _ => h.elim
theorem kv_keys {G : Hp} : ∀ {kvs : List (List Key × V)} {B : Best}, All2 (KvAt G) kvs B → kvs.map (·.1) = (B.map (·.1)).map keyOf
  | [], [], _ => rfl
  | e :: kvs, b :: B, h => by
    rw [List.map_cons, List.map_cons, List.map_cons, kv_keys h.2, h.1.1]
  | [], _ :: _, h => h.elim
  | _ :: _, [], h => h.elim
theorem kv_putN {G : Hp} {c : Cost} {kvs : List (List Key × V)} {B : Best} (h : All2 (KvAt G) kvs B) (hl : look B c = none) (v : V) : putK kvs (keyOf c) v = kvs ++ [(keyOf c, v)] := by
  refine putK_new v ?_
  have := kv_none (c := c) h
  rw [hl] at this
  exact Option.isSome_eq_false_iff.mp this |> Option.isNone_iff_eq_none.mp
/-- a comprehension over the keys of a locked dict with tuple keys -/
theorem lc_keysT {d : Addr} {o : Obj} {kvs : List (List Key × V)} {g : TG} {tt : TT} {te : TE} {vs : List Nat} {σ : L2.St} {H1 : Hp} {D : Addr} {Qd : Hp → Prop} (Pv : Nat → Hp → Prop) (h0 : Pv 0 (upd H1 D (.lst []))) (hl : ∀ i H, i ≤ kvs.length → Pv i H → H d = some (.frz o (.dT kvs)))
    (hs : ∀ i k v q H, kvs[i]? = some (k, v) → H q = some (.tup (k.map kV)) → Pv i H → g (.ref q) (wipe σ vs) H fun σ2 H2 => wipe σ2 vs = wipe σ vs ∧ tt σ2 H2 fun b H3 =>
      if b = true then te σ2 H3 fun y H4 => ∃ acc, H4 D = some (.lst acc) ∧ acc.length < sizeLine ∧ Pv (i + 1) (upd H4 D (.lst (acc ++ [y]))) else Pv (i + 1) H3) (hd : ∀ H, Pv kvs.length H → Qd H) :
    ∃ W : Nat → Nat → Hp → Prop, (∃ m, W 0 m (upd H1 D (.lst []))) ∧ ∀ i m H, W i m H →
      ((Itkt d o kvs).stop i H ∧ Qd H) ∨ ((Itkt d o kvs).go i H ∧ ∃ Nx : Hp → Prop, (∀ H', Nx H' → ∃ m', m' < m ∧ W (i + 1) m' H') ∧ ∀ x H', (Itkt d o kvs).yld i H x H' → g x (wipe σ vs) H' fun σ2 H2 => wipe σ2 vs = wipe σ vs ∧ tt σ2 H2 fun b H3 =>
        if b = true then te σ2 H3 fun y H4 => ∃ acc, H4 D = some (.lst acc) ∧ acc.length < sizeLine ∧ Nx (upd H4 D (.lst (acc ++ [y]))) else Nx H3) := by
  refine ⟨fun i m H => m = kvs.length - i ∧ i ≤ kvs.length ∧ Pv i H, ⟨kvs.length, by simp, Nat.zero_le _, h0⟩, ?_⟩
  rintro i m H ⟨rfl, hi, p⟩
  have q := hl i H hi p
  by_cases hlt : i < kvs.length
  · refine .inr ⟨⟨q, hlt⟩, Pv (i + 1), fun H' p' => ⟨kvs.length - (i + 1), by omega, rfl, hlt, p'⟩, fun x H' y => ?_⟩
    obtain ⟨e, k, v, a, hk, rfl, ha⟩ := y
    subst e
    exact hs i k v a _ hk ha p
  · have e : i = kvs.length := by omega
    subst e
    exact .inl ⟨⟨q, Nat.le_refl _⟩, hd H p⟩
theorem isOrd_snoc {n m k : Nat} {os : List Nat} (h : IsOrd n k os) (hm : m < n) (hn : m ∉ os) : IsOrd n (k + 1) (os ++ [m]) := by
  refine ⟨by rw [List.length_append, h.len]; rfl, fun i hi => ?_, ?_⟩
  · rcases List.mem_append.mp hi with hi | hi
    · exact h.lt i hi
    · rw [List.mem_singleton.mp hi]
      exact hm
  · rw [List.nodup_append]
    refine ⟨h.nd, by simp, fun a ha b hb => ?_⟩
    rw [List.mem_singleton.mp hb]
    exact fun e => hn (e ▸ ha)
theorem none_beats {B : Best} {c : Cost} : ((B.filter fun e => strict e.1 c).map (·.1)).isEmpty = !(B.any fun b => strict b.1 c) := by
  induction B with
  | nil => rfl
  | cons x r ih =>
    by_cases h : strict x.1 c = true
    · simp [h]
    · have h' : strict x.1 c = false := by simpa using h
      rw [List.filter_cons_of_neg (by simpa using h), ih, List.any_cons, h']
      rfl
/-- pairs of ints -/
def PrAt (G : Hp) (v : V) (c : Cost) : Prop := ∃ q, v = .ref q ∧ G q = some (.tup [.int c.1, .int c.2])
def dPr (c : Cost) : PyData := .tuple ([c.1, c.2].map PyData.int)
theorem prAt_dp {K : PySem.W.Frag} {G : Hp} {v : V} {c : Cost} (h : PrAt G v c) : Dp K G v (dPr c) := by
  obtain ⟨q, rfl, h⟩ := h
  exact dp_tints_of (ns := [c.1, c.2]) (SqT.of h)
theorem prAt_same {G G' : Hp} {v : V} {c : Cost} (s : Same G G') (h : PrAt G v c) : PrAt G' v c := by
  obtain ⟨q, e, h⟩ := h
  exact ⟨q, e, s _ _ h⟩
theorem canLay_prs : ∀ l : List Cost, PyData.canLayAll0 (l.map dPr) = true
  | [] => by simp [PyData.canLayAll0]
  | n :: r => by simp [PyData.canLayAll0, PyData.canLay0, dPr, canLay_prs r]
theorem depth_prs : ∀ l : List Cost, PyData.depthAll (l.map dPr) ≤ 1
  | [] => by simp [PyData.depthAll]
  | n :: r => by
    have h := depth_prs r
    have e : PyData.depth (dPr n) = 1 := by
      unfold dPr
      rw [PyData.depth, PySem.W.depth_ints]
    rw [List.map_cons, PyData.depthAll, e]
    omega
theorem shaped_prs (l : List Cost) : SeqAt.shaped (.list (l.map dPr)) = true := by
  have := depth_prs l
  unfold SeqAt.shaped
  simp [PyData.canLay0, canLay_prs, PyData.depth]
  omega
theorem eqv_nilA (ds : List PyData) : PyData.eqv (.list ds) (.list []) = ds.isEmpty := by
  cases ds with
  | nil => simp [PyData.eqv, PyData.eqvAll]
  | cons n r => simp [PyData.eqv, PyData.eqvAll]
/-- as dfs goes, the first m numbers -/
def dfsTo (d : Disk) (l : List Ask) (k : Nat) (os : List Nat) (B : Best) (m : Nat) : Best := (List.range m).foldl (fun B i => if i ∈ os then B else if (B.any fun b => strict b.1 (costW d l (os ++ [i]))) = true then B else dfs d l k (os ++ [i]) B) B
theorem dfsTo_succ (d : Disk) (l : List Ask) (k : Nat) (os : List Nat) (B : Best) (m : Nat) : dfsTo d l k os B (m + 1) = if m ∈ os then dfsTo d l k os B m else if ((dfsTo d l k os B m).any fun b => strict b.1 (costW d l (os ++ [m]))) = true then dfsTo d l k os B m else dfs d l k (os ++ [m]) (dfsTo d l k os B m) := by
  unfold dfsTo
  rw [foldl_range]
theorem dfsTo_len (d : Disk) (l : List Ask) (k : Nat) (os : List Nat) (B : Best) : ∀ m, (dfsTo d l k os B m).length ≤ B.length + ((moreTo m os).flatMap (lv l.length k)).length
  | 0 => Nat.le_add_right _ _
  | m + 1 => by
    have ih := dfsTo_len d l k os B m
    rw [dfsTo_succ]
    by_cases hmo : m ∈ os
    · rw [if_pos hmo, moreTo_in hmo]
      exact ih
    · rw [if_neg hmo, moreTo_out hmo, List.flatMap_append, List.length_append]
      split
      · omega
      · have h := dfs_len d l k (os ++ [m]) (dfsTo d l k os B m)
        have e1 : ([os ++ [m]] : List (List Nat)).flatMap (lv l.length k) = lv l.length k (os ++ [m]) := by simp
        rw [e1]
        omega
theorem moreTo_mono {k n : Nat} {os : List Nat} (f : List Nat → List (List Nat)) : ∀ j m, j ≤ m → ((moreTo j os).flatMap f).length ≤ ((moreTo m os).flatMap f).length
  | j, 0, h => by
    have e : j = 0 := by omega
    subst e
    exact Nat.le_refl _
  | j, m + 1, h => by
    by_cases e : j = m + 1
    · subst e
      exact Nat.le_refl _
    · have ih := moreTo_mono (k := k) (n := n) (os := os) f j m (by omega)
      by_cases hm : m ∈ os
      · rw [moreTo_in hm]
        exact ih
      · rw [moreTo_out hm, List.flatMap_append, List.length_append]
        omega
theorem dfsTo_room {d : Disk} {l : List Ask} {k : Nat} {os : List Nat} {B : Best} {m c : Nat} (hm : m < l.length) (hn : m ∉ os) (h : B.length + (lv l.length (k + 1) os).length ≤ c) : (dfsTo d l k os B m).length + (lv l.length k (os ++ [m])).length ≤ c := by
  have h1 := dfsTo_len d l k os B m
  have h2 := moreTo_mono (k := k) (n := 0) (os := os) (lv l.length k) (m + 1) l.length hm
  rw [moreTo_out hn, List.flatMap_append, List.length_append] at h2
  have e1 : ([os ++ [m]] : List (List Nat)).flatMap (lv l.length k) = lv l.length k (os ++ [m]) := by simp
  rw [e1] at h2
  have e2 : (lv l.length (k + 1) os).length = ((moreTo l.length os).flatMap (lv l.length k)).length := rfl
  omega
end Ag

namespace Ag
open PySem PySem.Spec PyProof.Rows L2 TL
/-! ### asks as a text -/
def numS (n : Int) : Str := Str.ofString (toString n)
def spS : Str := Str.ofString " "
def nlS : Str := Str.ofString "\n"
def askNs (q : Ask) : List Int := [q.1, q.2.1, q.2.2]
def rowS (q : Ask) : Str := Txt.join spS ((askNs q).map numS)
def textS (l : List Ask) : Str := Txt.join nlS (l.map rowS)
/-- a number of no more than three figures -/
structure Few (n : Int) : Prop where
  lo : 0 ≤ n
  hi : n ≤ 999
theorem figs_all : ∀ n < 1000, 1 ≤ (numL n).length ∧ (numL n).length ≤ 3 ∧ (n ≠ 0 → (numL n).head? ≠ some 48) := by decide +kernel
theorem tl_numS {n : Int} (h : Few n) : ∃ k : Nat, k < 1000 ∧ n = (k : Int) ∧ tl (numS n) = numL k := by
  have h1 := h.lo
  have h2 := h.hi
  refine ⟨n.toNat, by omega, by omega, ?_⟩
  have : n = (n.toNat : Int) := by omega
  unfold numS
  rw [this]
  exact tl_num _
theorem numS_len {n : Int} (h : Few n) : 1 ≤ (numS n).length ∧ (numS n).length ≤ 3 := by
  obtain ⟨k, hk, rfl, e⟩ := tl_numS h
  rw [len_tl, e]
  exact ⟨(figs_all k hk).1, (figs_all k hk).2.1⟩
theorem numS_int {n : Int} (h : Few n) : intText? (numS n) = some n := by
  obtain ⟨k, hk, rfl, e⟩ := tl_numS h
  exact int_num (Nat.le_trans (figs_all k hk).2.1 (by decide))
theorem numS_free {n : Int} (h : Few n) {s : Nat} (hs : s < 48 ∨ 57 < s) : s ∉ tl (numS n) := by
  obtain ⟨k, hk, rfl, e⟩ := tl_numS h
  rw [e]
  exact numL_free hs
theorem numS_sign {n : Int} (h : Few n) {c : Nat} (hc : c ∈ tl (numS n)) : 48 ≤ c ∧ c ≤ 57 := by
  refine ⟨?_, ?_⟩
  · by_cases z : 48 ≤ c
    · exact z
    · exact absurd hc (numS_free h (.inl (by omega)))
  · by_cases z : c ≤ 57
    · exact z
    · exact absurd hc (numS_free h (.inr (by omega)))
theorem figures {c : Nat} (h : 48 ≤ c ∧ c ≤ 57) : c ∈ (Str.ofString "0123456789").cps.toList := by
  have e : (Str.ofString "0123456789").cps.toList = [48, 49, 50, 51, 52, 53, 54, 55, 56, 57] := by decide +kernel
  rw [e]
  obtain ⟨h1, h2⟩ := h
  rcases (by omega : c = 48 ∨ c = 49 ∨ c = 50 ∨ c = 51 ∨ c = 52 ∨ c = 53 ∨ c = 54 ∨ c = 55 ∨ c = 56 ∨ c = 57) with rfl | rfl | rfl | rfl | rfl | rfl | rfl | rfl | rfl | rfl <;> decide
/-- the first sign, and that a nought stands alone -/
theorem numS_head {n : Int} (h : Few n) : ∃ c, atI (numS n).cps.toList 0 = some c ∧ (c = 48 → numS n = Str.ofString "0") := by
  obtain ⟨k, hk, rfl, e⟩ := tl_numS h
  have f := figs_all k hk
  have e' : (numS (k : Int)).cps.toList = numL k := e
  cases hl : numL k with
  | nil => rw [hl] at f; exact absurd f.1 (by decide)
  | cons c r =>
    refine ⟨c, by rw [e', hl]; exact atI_nat (j := 0) rfl, fun z => ?_⟩
    by_cases h0 : k = 0
    · subst h0
      rfl
    · have := f.2.2 h0
      rw [hl, z] at this
      exact absurd rfl this
theorem tl_spS : tl spS = [32] := by decide +kernel
theorem tl_nlS : tl nlS = [10] := by decide +kernel
theorem askNs_few {d : Disk} {q : Ask} (gd : GoodDisk d) (g : GoodAsk d q) : ∀ n ∈ askNs q, Few n := by
  intro n hn
  have h1 := g.c1
  have h2 := g.c2
  have h3 := g.t1
  have h4 := g.t2
  have h5 := g.s1
  have h6 := g.s2
  have h7 := gd.t2
  have h8 := gd.s2
  unfold askNs at hn
  rcases List.mem_cons.mp hn with rfl | hn
  · exact ⟨h1, h2⟩
  · rcases List.mem_cons.mp hn with rfl | hn
    · exact ⟨h3, by omega⟩
    · rcases List.mem_cons.mp hn with rfl | hn
      · exact ⟨h5, by omega⟩
      · cases hn
theorem tl_rowS (q : Ask) : tl (rowS q) = tl (numS q.1) ++ (32 :: (tl (numS q.2.1) ++ (32 :: tl (numS q.2.2)))) := by
  unfold rowS
  rw [join_eq, tl_join, tl_spS]
  rfl
theorem rowS_law (q : Ask) : numS q.1 ++ spS ++ numS q.2.1 ++ spS ++ numS q.2.2 = rowS q := by
  refine ext_tl ?_
  rw [tl_rowS, tl_append, tl_append, tl_append, tl_append, tl_spS]
  simp
theorem rowS_len {q : Ask} (h : ∀ n ∈ askNs q, Few n) : 5 ≤ (rowS q).length ∧ (rowS q).length ≤ 11 := by
  have a := numS_len (h q.1 (by simp [askNs]))
  have b := numS_len (h q.2.1 (by simp [askNs]))
  have c := numS_len (h q.2.2 (by simp [askNs]))
  rw [len_tl] at a b c
  rw [len_tl, tl_rowS]
  simp only [List.length_append, List.length_cons]
  omega
theorem rowS_split {q : Ask} (h : ∀ n ∈ askNs q, Few n) : Txt.split (rowS q) spS = (askNs q).map numS := by
  refine split_join tl_spS (by decide +kernel) (by simp [askNs]) fun p hp => ?_
  obtain ⟨n, hn, rfl⟩ := List.mem_map.mp hp
  exact numS_free (h n hn) (.inl (by decide))
theorem rowS_free {q : Ask} (h : ∀ n ∈ askNs q, Few n) : 10 ∉ tl (rowS q) := by
  have a := numS_free (h q.1 (by simp [askNs])) (s := 10) (.inl (by decide))
  have b := numS_free (h q.2.1 (by simp [askNs])) (s := 10) (.inl (by decide))
  have c := numS_free (h q.2.2 (by simp [askNs])) (s := 10) (.inl (by decide))
  rw [tl_rowS]
  simp [a, b, c]
theorem textS_split {l : List Ask} (h : ∀ q ∈ l, ∀ n ∈ askNs q, Few n) (hl : l ≠ []) : Txt.split (textS l) nlS = l.map rowS := by
  refine split_join tl_nlS (by decide +kernel) (fun e => hl (List.map_eq_nil_iff.mp e)) fun p hp => ?_
  obtain ⟨q, hq, rfl⟩ := List.mem_map.mp hp
  exact rowS_free (h q hq)
theorem textS_nil : textS [] = Str.ofString "" := by decide +kernel
theorem joinL_len (S : List Nat) (k : Nat) : ∀ ps : List (List Nat), (∀ p ∈ ps, p.length ≤ k) → (joinL S ps).length ≤ ps.length * (k + S.length)
  | [], _ => Nat.zero_le _
  | [p], h => by
    show p.length ≤ 1 * (k + S.length)
    have := h p (by simp)
    omega
  | p :: q :: r, h => by
    have ih := joinL_len S k (q :: r) fun z hz => h z (List.mem_cons_of_mem _ hz)
    have := h p (by simp)
    show (p ++ (S ++ joinL S (q :: r))).length ≤ _
    rw [List.length_append, List.length_append, List.length_cons (a := p), Nat.succ_mul]
    omega
theorem textS_len {l : List Ask} (h : ∀ q ∈ l, ∀ n ∈ askNs q, Few n) (hl : l.length ≤ 40) : (textS l).length ≤ 480 := by
  unfold textS
  rw [len_tl, join_eq, tl_join, tl_nlS]
  have := joinL_len [10] 11 ((l.map rowS).map tl) fun p hp => by
    obtain ⟨x, hx, rfl⟩ := List.mem_map.mp hp
    obtain ⟨q, hq, rfl⟩ := List.mem_map.mp hx
    rw [← len_tl]
    exact (rowS_len (h q hq)).2
  rw [List.length_map, List.length_map] at this
  have e : ([10] : List Nat).length = 1 := rfl
  rw [e] at this
  omega
theorem textS_ne {l : List Ask} (h : ∀ q ∈ l, ∀ n ∈ askNs q, Few n) (hl : l ≠ []) : textS l ≠ Str.ofString "" := by
  intro e
  have e2 := textS_split h hl
  rw [e] at e2
  have : Txt.split (Str.ofString "") nlS = [Str.ofString ""] := by decide +kernel
  rw [this] at e2
  cases l with
  | nil => exact hl rfl
  | cons q r =>
    rw [List.map_cons] at e2
    injection e2 with e3 e4
    have := (rowS_len (h q (by simp))).1
    rw [← e3] at this
    exact absurd this (by decide +kernel)
theorem sum_len {k : Nat} : ∀ {ws : List Str}, (∀ x ∈ ws, x.length ≤ k) → (ws.map (·.length)).sum ≤ ws.length * k
  | [], _ => Nat.zero_le _
  | x :: r, h => by
    have ih := sum_len (ws := r) fun z hz => h z (List.mem_cons_of_mem _ hz)
    have := h x (by simp)
    rw [List.map_cons, List.sum_cons, List.length_cons, Nat.succ_mul]
    omega
/-- a comprehension over a text's signs -/
theorem lc_signs {x : Str} {g : TG} {tt : TT} {te : TE} {vs : List Nat} {σ : L2.St} {H1 : Hp} {D : Addr} {Qd : Hp → Prop} (Pv : Nat → Hp → Prop) (h0 : Pv 0 (upd H1 D (.lst [])))
    (hs : ∀ i c H, x.cps[i]? = some c → Pv i H → g (.str ⟨#[c]⟩) (wipe σ vs) H fun σ2 H2 => wipe σ2 vs = wipe σ vs ∧ tt σ2 H2 fun b H3 =>
      if b = true then te σ2 H3 fun y H4 => ∃ acc, H4 D = some (.lst acc) ∧ acc.length < sizeLine ∧ Pv (i + 1) (upd H4 D (.lst (acc ++ [y]))) else Pv (i + 1) H3) (hd : ∀ H, Pv x.cps.size H → Qd H) :
    ∃ W : Nat → Nat → Hp → Prop, (∃ m, W 0 m (upd H1 D (.lst []))) ∧ ∀ i m H, W i m H →
      ((Its x).stop i H ∧ Qd H) ∨ ((Its x).go i H ∧ ∃ Nx : Hp → Prop, (∀ H', Nx H' → ∃ m', m' < m ∧ W (i + 1) m' H') ∧ ∀ y H', (Its x).yld i H y H' → g y (wipe σ vs) H' fun σ2 H2 => wipe σ2 vs = wipe σ vs ∧ tt σ2 H2 fun b H3 =>
        if b = true then te σ2 H3 fun y H4 => ∃ acc, H4 D = some (.lst acc) ∧ acc.length < sizeLine ∧ Nx (upd H4 D (.lst (acc ++ [y]))) else Nx H3) := by
  refine ⟨fun i m H => m = x.cps.size - i ∧ i ≤ x.cps.size ∧ Pv i H, ⟨x.cps.size, by simp, Nat.zero_le _, h0⟩, ?_⟩
  rintro i m H ⟨rfl, hi, p⟩
  by_cases hlt : i < x.cps.size
  · refine .inr ⟨hlt, Pv (i + 1), fun H' p' => ⟨x.cps.size - (i + 1), by omega, rfl, hlt, p'⟩, fun y H' hy => ?_⟩
    obtain ⟨e, c, hc, rfl⟩ := hy
    subst e
    exact hs i c _ hc p
  · have e : i = x.cps.size := by omega
    subst e
    exact .inl ⟨Nat.le_refl _, hd H p⟩
def rJoinK (K : PySem.W.Frag) : V → List V → Hp → VK → Prop := fun x xs H Q => ∃ a p, ∃ ys : List Str, x = .str a ∧ xs = [.ref p] ∧ (SqL K H p (ys.map V.str) ∨ SqT K H p (ys.map V.str)) ∧
      (ys.map (·.length)).sum + ys.length * a.length ≤ 16777216 ∧ Q (.str (Txt.join a ys)) H
/-- join within a block -/
theorem pe_joinK {X : Cx} {o e : Expr} {to te : TE} {K : PySem.W.Frag} {apos pos : Pos} (ho : PE X o to) (he : PE X e te) (hK : X.K = K := by rfl) (hs : starEach [e] X.env = [(false, eval e X.env)] := by rfl) (hbase : attributeBase o "join" X.env (eval o X.env) = eval o X.env := by rfl) (hline : (apos.endLine == pos.line) = true := by rfl) :
    PE X (.Call (.Attribute o "join" apos) [e] [] pos) (tM1 (rJoinK K) to te) := by
  subst hK
  exact pe_join ho he hs hbase hline
theorem log2_small {n : Int} (h : Few n) : n.natAbs.log2 < 1920 := by
  have h1 := h.lo
  have h2 := h.hi
  by_cases z : n.natAbs = 0
  · rw [z]; decide
  · have := (Nat.log2_lt z (k := 10)).mpr (by omega)
    omega
end Ag

namespace Ag
open PySem PySem.Spec PyProof.Rows L2 LamX NdefX
open PySem.W (hideAll hideAll_get hideAll_none hideAll_size of_hideAll)
/-! ### a wider base at a call -/
section
variable {P : Program} {w : World} {K : PySem.W.Frag} {mg : Str → Option Value} {base : Heap} {A : Around} {outer : List Env} {s : Shared} {H : Hp}
theorem funFrames_none {h base : Heap} : ∀ {l : List Env}, h.FunFrames base l → ∀ {b2 : Heap}, (∀ b ∈ frs l, b2.get? b = none) → h.FunFrames b2 l
  | [], _, _, _ => trivial
  | env :: r, hl, b2, hn => by
    obtain ⟨hk, ⟨L, o, hf, hn0, ho, hd⟩, hr⟩ := hl
    have hL : L ∈ frs (env :: r) := by unfold frs; rw [List.filterMap_cons, hf]; exact List.mem_cons_self
    exact ⟨hk, ⟨L, o, hf, hn L hL, ho, hd⟩, funFrames_none hr fun b hb => hn b (by unfold frs at hb ⊢; rw [List.filterMap_cons, hf]; exact List.mem_cons_of_mem _ hb)⟩
/-- all that stands untracked and is no frame may be taken into the base -/
theorem env0_rebase (e : Env0 P w K mg base A outer s H) : ∃ b2 : Heap, Env0 P w K mg b2 A outer s H ∧ (∀ b o, base.get? b = some o → b2.get? b = some o) ∧ ∀ b o, s.heap.get? b = some o → H b = none → b ∉ frs outer → b2.get? b = some o := by
  classical
  refine ⟨hideAll s.heap (frs outer ++ (List.range s.heap.objs.size).filter fun a => decide (H a ≠ none)), ?_⟩
  have up : ∀ b o, s.heap.get? b = some o → H b = none → b ∉ frs outer → (hideAll s.heap (frs outer ++ (List.range s.heap.objs.size).filter fun a => decide (H a ≠ none))).get? b = some o := fun b o h1 h2 h3 => by
    refine hideAll_get _ h1 fun hm => ?_
    rcases List.mem_append.mp hm with hm | hm
    · exact h3 hm
    · have := (List.mem_filter.mp hm).2
      simp [h2] at this
  have nofr : ∀ b ∈ frs outer, base.get? b = none := fun b hb => (e.funs.mem hb).1
  have old : ∀ b o, base.get? b = some o → (hideAll s.heap (frs outer ++ (List.range s.heap.objs.size).filter fun a => decide (H a ≠ none))).get? b = some o := fun b o h1 => by
    refine up b o (e.bs b o h1).1 (e.bs b o h1).2 fun hb => ?_
    rw [nofr b hb] at h1
    cases h1
  obtain ⟨kin, glob, ⟨mb, blt, blt2⟩, nolimit⟩ := e.mod
  refine ⟨⟨e.frames, ⟨kin.keeps old, glob.keeps old, ⟨mb, blt.keeps old, blt2⟩, nolimit.keeps old⟩, fun b o h1 => ?_, by rw [hideAll_size]; exact Nat.le_refl _, funFrames_none e.funs fun b hb => hideAll_none _ (List.mem_append_left _ hb), e.frf, e.hok, e.bare⟩, old, up⟩
  have h2 := of_hideAll _ h1
  refine ⟨h2, ?_⟩
  cases q : H b with
  | none => rfl
  | some o2 =>
    have hm : b ∈ frs outer ++ (List.range s.heap.objs.size).filter fun a => decide (H a ≠ none) := by
      refine List.mem_append_right _ (List.mem_filter.mpr ⟨List.mem_range.mpr (Heap.lt_size h2), ?_⟩)
      rw [q]
      simp
    rw [hideAll_none _ hm] at h1
    cases h1
end
/-! ### a lambda, run -/
abbrev lamO (F : NF) (params : Arguments) (body : Expr) (pm ctv : Value) : Obj := PySem.W.kla_obj "<lambda>" F.qual params body F.scope F.cl pm F.c ctv
section
variable {P : Program} {w : World} {K : PySem.W.Frag} {mg : Str → Option Value} {base : Heap} {A : Around} {outer : List Env} {s : Shared} {H : Hp} {N ps fr : List Str} {F : NF} {f : Addr} {params : Arguments} {body : Expr} {pm ctv : Value} {vs : List V} {us : List Value} {ws : List (Option V)} {k : Nat} {Q : VK} {t : TE}
theorem lam_run (S : NScope N ps fr F.scope) (hr : Room (k + 1) A) (e0 : Env0 P w K mg base A outer s H) (hf : s.heap.get? f = some (lamO F params body pm ctv)) (hc : H F.c = some (CodeO F.c F.qual)) (C : CellsAt F.cl fr ws s.heap H)
    (r : Vals vs us) (hl : vs.length = ps.length) (hb : bindArgs (PySem.W.kla_fn "<lambda>" F.qual params body F.scope F.cl pm (.ref F.c) ctv) ⟨us, []⟩ = pure (ps.zip us))
    (hbody : Room k (A.deeper (envF F f s.heap.objs.size)) → PE (ncx CX0 P w K mg base N F f A outer s H E0) body t) (q : t (startF N vs ws) H Q) : codeAny (model P w) A (.call (.ref f) ⟨us, []⟩) (CR CX0 outer P w H s Q E0) s := by
  have lim : s.heap.NoLimit := e0.mod.nolimit.keeps fun b o e => (e0.bs b o e).1
  refine PySem.W.kla_callFunE hr.depth hf rfl S.co S.gen rfl (codeO_at e0.hok hc) ?_
  rw [hb]
  refine wpAny_pure (wpAny_newFunctionEnv S.nocell (fun ⟨n, _⟩ hy => S.par n (List.of_mem_zip hy).1) (fun h₁ hns hsb => ⟨lim.fresh _ hsb, ?_⟩) S.kind)
  have kp : ∀ b o, s.heap.get? b = some o → h₁.get? b = some o := fun b o e => hsb.extBut b o (Nat.ne_of_lt (Heap.lt_size e)) (Heap.get?_push_of_some _ e)
  have I : Inv (ncx CX0 P w K mg base N F f A outer s H E0) [] (startF N vs ws) H { s with heap := h₁, toks := s.toks + (ps.zip us).length } := inv_startN S hr.hd e0 hl r C hns kp
  refine PySem.W.kla_codeExpr (wpAny_mono ((hbody (hr.deeper _)).run [] _ _ H Q I q) (fun v s' hq => ?_) fun e s' hq => hq)
  obtain ⟨w', H', J', rv, q⟩ := hq
  exact ⟨w', H', J'.os, J'.bare, J'.base, J'.hok, rv, q⟩
end

/-! ### a lambda and its cells in a base -/
structure LamB (base : Heap) (f : Addr) (F : NF) (params : Arguments) (body : Expr) (fr : List Str) (ws : List (Option V)) : Prop where
  fn : ∃ pm ctv, base.get? f = some (lamO F params body pm ctv)
  len : ws.length = fr.length
  all : ∀ y c, F.cl.lookup y = some c → ∃ v, base.IsCell c v
  inj : ∀ x y c, F.cl.lookup x = some c → F.cl.lookup y = some c → x = y
  has : ∀ (i : Nat) (y : Str), fr[i]? = some y → ∃ c, F.cl.lookup y = some c ∧ ∀ v, ws[i]? = some (some v) → ∃ u, L2.RelV v u ∧ base.IsCell c (some u)
section
variable {P : Program} {w : World} {K : PySem.W.Frag} {mg : Str → Option Value} {base b2 : Heap} {A : Around} {outer : List Env} {s : Shared} {H : Hp} {fr : List Str} {F : NF} {f : Addr} {params : Arguments} {body : Expr} {ws : List (Option V)}
theorem cell_up {base b2 : Heap} (up : ∀ b o, base.get? b = some o → b2.get? b = some o) {c : Addr} {v : Option Value} (h : base.IsCell c v) : b2.IsCell c v := let ⟨o, e, d⟩ := h; ⟨o, up _ _ e, d⟩
theorem LamB.cells (B : LamB base f F params body fr ws) (e : Env0 P w K mg base A outer s H) : CellsAt F.cl fr ws s.heap H :=
  ⟨B.len, fun y c h => by
    obtain ⟨v, o, ho, hd⟩ := B.all y c h
    exact ⟨(e.bs _ _ ho).2, v, o, (e.bs _ _ ho).1, hd⟩, B.inj, fun i y h => by
    obtain ⟨c, hc, hv⟩ := B.has i y h
    exact ⟨c, hc, fun v hv' => let ⟨u, ru, hu⟩ := hv v hv'; ⟨u, ru, cell_up (fun b o z => (e.bs b o z).1) hu⟩⟩⟩
theorem LamB.up (B : LamB base f F params body fr ws) (up : ∀ b o, base.get? b = some o → b2.get? b = some o) : LamB b2 f F params body fr ws :=
  ⟨let ⟨pm, ctv, h⟩ := B.fn; ⟨pm, ctv, up _ _ h⟩, B.len, fun y c h => let ⟨v, z⟩ := B.all y c h; ⟨v, cell_up up z⟩, B.inj, fun i y h => let ⟨c, hc, hv⟩ := B.has i y h; ⟨c, hc, fun v hv' => let ⟨u, ru, hu⟩ := hv v hv'; ⟨u, ru, cell_up up hu⟩⟩⟩
end
theorem lamB_made {X : Cx} {pins : List (Addr × Obj)} {σ : L2.St} {H : Hp} {s : Shared} {b2 : Heap} {f : Addr} {F : NF} {params : Arguments} {body : Expr} {fr : List Str} {js : List Nat} {pm ctv : Value} (I : Inv X pins σ H s) (hfn : ∀ y, X.fn y = true) (cp : Caps X F.cl fr js)
    (hf : s.heap.get? f = some (lamO F params body pm ctv)) (n : H f = none) (nf : f ∉ frs X.stack) (up : ∀ b o, s.heap.get? b = some o → H b = none → b ∉ frs X.stack → b2.get? b = some o) : LamB b2 f F params body fr (js.map (slotAt σ)) := by
  have C := cells_of I cp
  have nc : ∀ y c, F.cl.lookup y = some c → c ∉ frs X.stack := fun y c h hm => by
    have hx := cp.sub y c h
    rcases List.mem_cons.mp (I.stkSub c hm) with e | hb
    · exact I.cne y c hx e
    · have h1 := I.ok.cab y c (hfn y) hx
      obtain ⟨_, o, ho, _⟩ := I.ok.funs.mem hb
      exact absurd (Nat.lt_of_lt_of_le (Heap.lt_size ho) h1) (Nat.lt_irrefl _)
  refine ⟨⟨pm, ctv, up _ _ hf n nf⟩, C.len, fun y c h => ?_, C.inj, fun i y h => ?_⟩
  · obtain ⟨hn, v, o, ho, hd⟩ := C.all y c h
    exact ⟨v, o, up _ _ ho hn (nc y c h), hd⟩
  · obtain ⟨c, hc, hv⟩ := C.has i y h
    refine ⟨c, hc, fun v hv' => ?_⟩
    obtain ⟨u, ru, o, ho, hd⟩ := hv v hv'
    exact ⟨u, ru, o, up _ _ ho (C.all y c hc).1 (nc y c hc), hd⟩
/-! ### what a function of one number promises, at every base that widens this one -/
/-- its answer: a number (the heap as it was), or a new tuple -/
def ansI (g : Int → Int) (n : Int) (H : Hp) : VK := fun v H' => v = .int (g n) ∧ H' = H
def ansT (g : Int → List Int) (n : Int) (H : Hp) : VK := fun v H' => ∃ p, v = .ref p ∧ H p = none ∧ H' = upd H p (.tup ((g n).map V.int))
structure KeyFn (P : Program) (w : World) (K : PySem.W.Frag) (mg : Str → Option Value) (base : Heap) (k : Nat) (f : Addr) (dom : Int → Prop) (Ih : Hp → Prop) (ans : Int → Hp → VK) : Prop where
  fn : PySem.W.FnAt f base
  run : ∀ (b2 : Heap) (A : Around) (outer : List Env) (s : Shared) (H : Hp) (u : Value) (n : Int), (∀ b o, base.get? b = some o → b2.get? b = some o) → Room k A → Env0 P w K mg b2 A outer s H → Ih H → dom n → RelV (.int n) u →
    codeAny (model P w) A (.call (.ref f) ⟨[u], []⟩) (CR CX0 outer P w H s (ans n H) E0) s
section
variable {P : Program} {w : World} {K : PySem.W.Frag} {mg : Str → Option Value} {base : Heap} {k j : Nat} {f : Addr} {dom : Int → Prop} {Ih : Hp → Prop} {ans : Int → Hp → VK}
theorem keyFn_lam {N fr : List Str} {x : Str} {F : NF} {params : Arguments} {body : Expr} {ws : List (Option V)} (S : NScope N [x] fr F.scope) (B : LamB base f F params body fr ws) (hb : ∀ (pm ctv u : Value), bindArgs (PySem.W.kla_fn "<lambda>" F.qual params body F.scope F.cl pm (.ref F.c) ctv) ⟨[u], []⟩ = pure ([x].zip [u]))
    (hc : ∀ H, Ih H → H F.c = some (CodeO F.c F.qual))
    (hbody : ∀ (b2 : Heap) (A : Around) (outer : List Env) (s : Shared) (H : Hp) (n : Int), (∀ b o, base.get? b = some o → b2.get? b = some o) → Room k (A.deeper (envF F f s.heap.objs.size)) → Ih H → dom n →
      ∃ t, PE (ncx CX0 P w K mg b2 N F f A outer s H E0) body t ∧ t (startF N [.int n] ws) H (ans n H)) : KeyFn P w K mg base (k + 1) f dom Ih ans := by
  obtain ⟨pm, ctv, hf⟩ := B.fn
  refine ⟨⟨_, _, _, _, hf⟩, fun b2 A outer s H u n up hr e0 hI hd r => ?_⟩
  have C := (B.up up).cells e0
  have hfs := (e0.bs _ _ (up _ _ hf)).1
  by_cases hr' : Room k (A.deeper (envF F f s.heap.objs.size))
  · obtain ⟨t, ht, hq⟩ := hbody b2 A outer s H n up hr' hI hd
    exact lam_run S hr e0 hfs (hc H hI) C (.cons r .nil) rfl (hb pm ctv u) (fun _ => ht) hq
  · exact absurd (hr.deeper _) hr'
/-- f(e), f a name that holds such a function -/
theorem pe_key {X : Cx} {b0 : Heap} {i : Nat} {x : Str} {p pos : Pos} {e : Expr} {t : TA} (Fn : KeyFn X.prog X.w X.K X.mg b0 k f dom Ih ans) (up : ∀ b o, b0.get? b = some o → X.base.get? b = some o) (hr : Room j X.A) (hk : k ≤ j) (hN : X.N[i]? = some x) (hv : Vis X.env.scope x) (ha : PA X [e] t)
    (hd : (x == ("__debug__" : Str)) = false := by decide) (hcd : (x == ("__classdict__" : Str)) = false := by decide)
    (he : starEach (e :: []) X.env = (false, eval e X.env) :: starEach [] X.env := by rfl) (hpl : (backTo pos (starEach [] X.env)).any (·.1) = false := by rfl) :
    PE X (.Call (.Name x p) [e] [] pos) (fun σ H Q => σ[i]? = some (some (.ref f)) ∧ t σ H fun vs H1 => ∃ n, vs = [.int n] ∧ dom n ∧ Ih H1 ∧ ∀ v H2, ans n H1 v H2 → Q v H2) := by
  refine ⟨fun pins s σ H Q I h => ?_⟩
  obtain ⟨hs, ht⟩ := h
  refine wpAny_Call_Name_kw (thn ((pe_var (pos := p) hN hv hd hcd).run pins s σ H (fun v H1 => v = .ref f ∧ H1 = H) I ⟨.ref f, hs, rfl, rfl⟩) fun u s1 ⟨v, H1, I1, r1, q1⟩ => ?_)
  obtain ⟨ev, eH⟩ := q1
  subst ev
  rw [eH] at I1
  obtain rfl : u = Value.ref f := r1
  have at_ : ∀ {pins : List (Addr × Obj)} {σ : L2.St} {H : Hp} {s : Shared}, Inv X pins σ H s → PySem.W.FnAt f s.heap := fun J => by
    obtain ⟨c, od, fd, sl, ho⟩ := Fn.fn
    exact ⟨c, od, fd, sl, J.bk _ _ (up _ _ ho)⟩
  refine PySem.W.callWith_F (first := []) (at_ I1) (thn (ha.run pos pins s1 σ H _ I1 ht) fun us s2 ⟨vs, H2, I2, r, n, ev, hdm, hI, q⟩ => ⟨at_ I2, ?_⟩) he hpl
  subst ev
  obtain ⟨u, rfl, ru⟩ := vals1 r
  show wpAny _ _ (call (.ref f) [u]) _ _ _
  refine wpAny_call (codeAny_mono (Fn.run X.base X.A X.stack s2 H2 u n up (hr.mono hk) I2.env0 hI hdm ru) fun r s' hq => ?_)
  cases r with
  | error e => exact False.elim hq
  | ok fl =>
    cases fl with
    | ret u => 
      obtain ⟨v, H', J, rv, q'⟩ := I2.after hq
      exact ⟨v, H', J, rv, q v H' q'⟩
    | next => exact False.elim hq
    | brk => exact False.elim hq
    | cont => exact False.elim hq
end
end Ag

set_option maxHeartbeats 8000000
namespace Ag
open PySem PySem.Spec PyProof.Rows L2 LamX NdefX
/-! ### min(xs, key=lambda ..): the first item of the least key -/
/-- a list walked by what it holds, not by the very words that stand there -/
theorem walksV {prog : Program} {w : World} {A : Around} (hh : A.handled = none) (I ax : Addr) (hne : ax ≠ I) (xs : List V) :
    WalksS prog w A I [I, ax] [I] (fun a b => b = a) xs.length (fun i v => ∃ x, xs[i]? = some x ∧ RelV x v) (fun i s => s.heap.IsListIter I ax i ∧ ∃ items : Array Value, s.heap.IsList ax items ∧ Vals xs items.toList) := by
  have sz : ∀ {items : Array Value}, Vals xs items.toList → items.size = xs.length := fun r => by
    have := r.length
    simpa using this.symm
  refine ⟨fun b hb => by simp at hb; simp [hb], fun _ => rfl, fun _ _ _ h1 h2 => h2.trans h1, ?_, ?_, ?_, ?_⟩
  · rintro i s h' tk ⟨h1, items, h2, h3⟩ _ hk
    exact ⟨h1.at fun o e => hk I (by simp) o e, items, h2.at fun o e => hk ax (by simp) o e, h3⟩
  · rintro i s Q E hi ⟨h1, items, h2, h3⟩ hQ
    refine (Walks.list (prog := prog) (w := w) (A := A) hh I ax hne items).toS.item i s Q E (by rw [sz h3]; exact hi) ⟨h1, h2⟩ fun v s' hv st m => ?_
    obtain ⟨x, hx⟩ : ∃ x, xs[i]? = some x := ⟨_, List.getElem?_eq_getElem hi⟩
    obtain ⟨u, hu, ru⟩ := h3.get hx
    have e : v = u := by
      have h4 : items[i]? = some v := hv
      rw [← Array.getElem?_toList, hu] at h4
      exact (Option.some.inj h4).symm
    exact hQ v s' ⟨x, hx, e ▸ ru⟩ ⟨st.1, items, st.2, h3⟩ m
  · rintro s Q E ⟨h1, items, h2, h3⟩ hQ
    exact (Walks.list (prog := prog) (w := w) (A := A) hh I ax hne items).toS.done s Q E ⟨by rw [sz h3]; exact h1, h2⟩ hQ
  · rintro i s Q E ⟨h1, items, h2, h3⟩ hQ
    exact (Walks.list (prog := prog) (w := w) (A := A) hh I ax hne items).toS.self i s Q E ⟨h1, h2⟩ hQ
/-- only new tuples are added -/
structure Ext (H H' : Hp) : Prop where
  same : Same H H'
  new : ∀ b, H b = none → H' b = none ∨ ∃ xs, H' b = some (.tup xs)
theorem Ext.refl (H : Hp) : Ext H H := ⟨Same.refl H, fun b e => .inl e⟩
theorem Ext.tup {H H' : Hp} (e : Ext H H') {p : Addr} {xs : List V} (n : H' p = none) : Ext H (upd H' p (.tup xs)) :=
  ⟨e.same.trans (same_new n), fun b hb => by
    by_cases z : b = p
    · rw [z, upd_same]
      exact .inr ⟨xs, rfl⟩
    · rw [upd_ne z]
      exact e.new b hb⟩
/-! ### the least -/
abbrev lexL := HT.lexLt
theorem lexL_irr : ∀ l : List Int, lexL l l = false
  | [] => rfl
  | x :: r => by
    show (if x = x then lexL r r else _) = false
    rw [if_pos rfl]
    exact lexL_irr r
/-- of three numbers each: not less, and less, make less -/
theorem lexL_trans {a b c : List Int} (ha : a.length = 3) (hb : b.length = 3) (hc : c.length = 3) (h1 : lexL b a = true) (h2 : lexL c a = false) : lexL c b = false := by
  match a, b, c, ha, hb, hc with
  | [a1, a2, a3], [b1, b2, b3], [c1, c2, c3], _, _, _ =>
    simp only [lexL, HT.lexLt_cons, HT.lexLt_nil_nil] at h1 h2 ⊢
    split at h1 <;> split at h2 <;> split <;> first | omega | skip
    all_goals (try split at h1) <;> (try split at h2) <;> (try split) <;> first | omega | skip
    all_goals (try split at h1) <;> (try split at h2) <;> (try split) <;> simp_all <;> omega
theorem best_least (g : Int → List Int) (hg : ∀ n, (g n).length = 3) (ns : List Int) : ∀ k, k < ns.length → argBest (fun i j => lexL (g (ns.getD i 0)) (g (ns.getD j 0))) k ≤ k ∧
    ∀ i, i ≤ k → lexL (g (ns.getD i 0)) (g (ns.getD (argBest (fun i j => lexL (g (ns.getD i 0)) (g (ns.getD j 0))) k) 0)) = false
  | 0, _ => ⟨Nat.le_refl _, fun i hi => by
    obtain rfl : i = 0 := by omega
    exact lexL_irr _⟩
  | k + 1, hk => by
    obtain ⟨i1, i2⟩ := best_least g hg ns k (by omega)
    by_cases hb : lexL (g (ns.getD (k + 1) 0)) (g (ns.getD (argBest (fun i j => lexL (g (ns.getD i 0)) (g (ns.getD j 0))) k) 0)) = true
    · have ea : argBest (fun i j => lexL (g (ns.getD i 0)) (g (ns.getD j 0))) (k + 1) = k + 1 := if_pos hb
      rw [ea]
      refine ⟨Nat.le_refl _, fun i hi => ?_⟩
      by_cases z : i = k + 1
      · rw [z]
        exact lexL_irr _
      · exact lexL_trans (hg _) (hg _) (hg _) hb (i2 i (by omega))
    · have ea : argBest (fun i j => lexL (g (ns.getD i 0)) (g (ns.getD j 0))) (k + 1) = argBest (fun i j => lexL (g (ns.getD i 0)) (g (ns.getD j 0))) k := if_neg hb
      rw [ea]
      refine ⟨by omega, fun i hi => ?_⟩
      by_cases z : i = k + 1
      · rw [z]
        simpa using hb
      · exact i2 i (by omega)
theorem vals_det : ∀ {xs : List V} {us : List Value} {ns : List Int}, Vals xs us → Vals (ns.map V.int) us → xs = ns.map V.int
  | [], _, ns, .nil, h2 => by
    cases ns with
    | nil => rfl
    | cons n r => rw [List.map_cons] at h2; cases h2
  | x :: xs, u :: us, [], .cons a r, h2 => by cases h2
  | x :: xs, u :: us, n :: ns, .cons a r, h2 => by
    rw [List.map_cons] at h2
    cases h2 with
    | cons b r2 =>
      have e : x = .int n := by
        obtain ⟨t, rfl⟩ := b
        cases x <;> first | (obtain ⟨t', e⟩ := a; first | (cases e; done) | (cases e; rfl)) | (exact absurd a (by intro z; cases z)) | (cases a; done)
      rw [e, vals_det r r2]
      rfl
/-! ### the rule -/
section
variable {X : Cx} {pins : List (Addr × Obj)} {σ : L2.St} {H : Hp} {s : Shared} {Q : VK}
theorem un_of {v : Value} {P : Program} {w : World} {outer : List Env} {s' : Shared} (h : CE outer P w H s Q v s') : ∃ H', Un (frs outer) [] H H' s.heap s'.heap ∧ HOk P w H' s'.heap := let ⟨_, H', _, _, un, hok, _⟩ := h; ⟨H', un, hok⟩
theorem min_key {k j : Nat} {a f : Addr} {ns : List Int} {g : Int → List Int} {o : Obj} (I : Inv X pins σ H s) (hc : X.calm = true) (hr : Room (j + 1) X.A) (hk : k ≤ j) (hL : H a = some (.lst (ns.map V.int))) (hne : ns ≠ []) (hg : ∀ n, (g n).length = 3)
    (hf : s.heap.get? f = some o) (nf : H f = none) (ff : f ∉ frs X.stack)
    (Fn : ∀ b2 : Heap, (∀ b o, X.base.get? b = some o → b2.get? b = some o) → (∀ b o, s.heap.get? b = some o → H b = none → b ∉ frs X.stack → b2.get? b = some o) → KeyFn X.prog X.w X.K X.mg b2 k f (· ∈ ns) (Ext H) (ansT g))
    (q : ∀ m H', Ext H H' → m ∈ ns → (∀ n ∈ ns, lexL (g n) (g m) = false) → Q (.int m) H') :
    wpAny (model X.prog X.w) X.A (call (.builtin "min") [.ref a] [(Str.ofString "key", .ref f)]) (EP X pins σ Q) X.xe s := by
  have hu : X.A.units + 64 < cLine := hr.units
  obtain ⟨b2, e2, up2, in2⟩ := env0_rebase I.env0
  have Fn2 := Fn b2 up2 in2
  obtain ⟨its, rv, pl, hz⟩ := I.list (SqL.of hL)
  have hsz : its.length = ns.length := by rw [← rv.length, List.length_map]
  refine call_min_walkK (wpAny_pyIter_list pl.isList ?_)
  have hlt : a < s.heap.objs.size := by obtain ⟨_, e, _⟩ := pl.isList; exact Heap.lt_size e
  have kp : ∀ b o, s.heap.get? b = some o → (s.heap.push { cls := .type "list_iterator", data := .fields #[.ref a, .int 0 0] }).get? b = some o := fun b o e => Heap.get?_push_of_some _ e
  -- where the walk's own things stand
  have hr1 : Room j X.A.in1 := hr.in1
  generalize hs2 : ({ s with heap := s.heap.push { cls := .type "list_iterator", data := .fields #[.ref a, .int 0 0] } } : Shared) = s2
  have h2 : s2.heap = s.heap.push { cls := .type "list_iterator", data := .fields #[.ref a, .int 0 0] } := by rw [← hs2]
  have sz2 : s2.heap.objs.size = s.heap.objs.size + 1 := by rw [h2, Heap.size_push]
  have fI : FpOk X pins H s.heap.objs.size := I.fpOk (Nat.le_refl _) (I.hok.fresh (Nat.le_refl _))
  have fS : FpOk X pins H s2.heap.objs.size := I.fpOk (by omega) (I.hok.fresh (by omega))
  have I2 : Inv X pins σ H s2 := by
    rw [← hs2]
    exact I.kept (t' := s.toks) kp
  have nst : ∀ {H' : Hp} {b : Addr}, FpOk X pins H' b → b ∉ frs X.stack := fun f hm => by
    rcases List.mem_cons.mp (I.stkSub _ hm) with e | e
    · exact f.2.1 e
    · exact f.2.2.1 e
  have lt2 : ∀ {b : Addr} {ob : Obj}, s.heap.get? b = some ob → b ≠ s.heap.objs.size ∧ b ≠ s2.heap.objs.size := fun e =>
    ⟨Nat.ne_of_lt (Heap.lt_size e), Nat.ne_of_lt (Nat.lt_of_lt_of_le (Heap.lt_size e) (by rw [sz2]; exact Nat.le_succ _))⟩
  have hli : s2.heap.IsListIter s.heap.objs.size a 0 := by
    rw [h2]
    exact ⟨_, Heap.get?_push_size _ rfl, rfl, rfl⟩
  have hl2 : ∃ items : Array Value, s2.heap.IsList a items ∧ Vals (ns.map V.int) items.toList := by
    rw [h2]
    exact ⟨its.toArray, pl.isList.push _, by simpa using rv⟩
  have hI1 : s.heap.objs.size < s2.heap.objs.size := by rw [sz2]; exact Nat.lt_succ_self _
  revert fI fS hli lt2 hI1
  generalize s.heap.objs.size = It at *
  generalize hSS : s2.heap.objs.size = S
  intro fI fS lt2 hli hI1
  have nIS : It ≠ S := Nat.ne_of_lt hI1
  have hlen : (ns.map V.int).length = ns.length := List.length_map ..
  refine ⟨It, [It, a], [It], (fun a b => b = a), (ns.map V.int).length, (fun i v => ∃ x, (ns.map V.int)[i]? = some x ∧ RelV x v), (fun i s => s.heap.IsListIter It a i ∧ ∃ items : Array Value, s.heap.IsList a items ∧ Vals (ns.map V.int) items.toList),
    (fun s' => ∃ H', Inv X pins σ H' s' ∧ Ext H H' ∧ FpOk X pins H' S ∧ FpOk X pins H' It ∧ ∀ b o, s.heap.get? b = some o → H b = none → b ∉ frs X.stack → s'.heap.get? b = some o ∧ H' b = none),
    (fun i k s' => ∃ t its n, k = .ref t ∧ ns[i]? = some n ∧ H t = none ∧ t ∉ frs X.stack ∧ t ≠ S ∧ t ≠ It ∧ IsTup s'.heap t its ∧ IntsAre its.toList (g n)),
    (fun i j => lexL (g (ns.getD i 0)) (g (ns.getD j 0))), rfl, walksV (A := X.A.in1) (I.ok.hd hc) It a (Nat.ne_of_lt hlt) _, ⟨hli, hl2⟩, ?_, ?_, ?_, ?_, ?_⟩
  · intro b hb
    rcases List.mem_cons.mp hb with z | hb
    · rw [z]
      exact hI1
    · rcases List.mem_cons.mp hb with z | hb
      · rw [z]
        exact Nat.lt_trans hlt hI1
      · cases hb
  · rw [hlen]
    exact List.length_pos_iff.mpr hne
  · refine ⟨?_, ?_, ?_, ?_⟩
    · -- what min itself turns
      rintro sa sb ⟨H', I', E', fS', fI', KU⟩ m
      obtain ⟨h1, g1, d1, t1, o1⟩ := sb
      have hg1 : g1 = sa.gens := m.gens
      have hd1 : d1 = sa.drawn := m.drawn
      have ho1 : o1 = sa.os := m.os
      subst hg1 hd1 ho1
      refine ⟨H', I'.turnedL (ch := [S, It]) (fun b o hb e => m.heap b o hb e) (fun b hb => ?_), E', fS', fI', fun b o e n nf => ⟨m.heap b o (fun hm => ?_) (KU b o e n nf).1, (KU b o e n nf).2⟩⟩
      · rcases List.mem_cons.mp hb with rfl | hb
        · exact fS'
        · rw [List.mem_singleton.mp hb]
          exact fI'
      · rcases List.mem_cons.mp hm with z | z
        · exact (lt2 e).2 z
        · exact (lt2 e).1 (List.mem_singleton.mp z)
    · rintro i k sa sb ⟨t, its, n, rfl, hn, ht, nf, tS, tI, ⟨ob, e1, e2⟩, hi⟩ m
      refine ⟨t, its, n, rfl, hn, ht, nf, tS, tI, ⟨ob, m.heap t ob (fun hm => ?_) e1, e2⟩, hi⟩
      rcases List.mem_cons.mp hm with z | z
      · exact tS z
      · exact tI (List.mem_singleton.mp z)
    · -- a key
      rintro i v sa ob Qk Ek hi ⟨x, hx, rx⟩ ⟨H', I', E', fS', fI', KU⟩ ⟨st1, items, st2, st3⟩ hS hQ
      obtain ⟨n, hn, rfl⟩ : ∃ n, ns[i]? = some n ∧ x = .int n := by
        rw [List.getElem?_map] at hx
        cases e : ns[i]? with
        | none => rw [e] at hx; cases hx
        | some n => rw [e] at hx; exact ⟨n, rfl, (Option.some.inj hx).symm⟩
      obtain ⟨b3, e3, up3, in3⟩ := env0_rebase I'.env0.in1
      refine wpAny_call (codeAny_mono (Fn2.run b3 X.A.in1 X.stack sa H' v n (fun b o hb => ?_) (hr1.mono hk) e3 E' (List.mem_of_getElem? hn) rx) fun r s' hq => ?_)
      · have h1 := e2.bs b o hb
        have h3 : b ∉ frs X.stack := fun hm => by
          rw [(e2.funs.mem hm).1] at hb
          cases hb
        obtain ⟨h4, h5⟩ := KU b o h1.1 h1.2 h3
        exact in3 b o h4 h5 h3
      cases r with
      | error e => exact False.elim hq
      | ok fl =>
        cases fl with
        | next => exact False.elim hq
        | brk => exact False.elim hq
        | cont => exact False.elim hq
        | ret u =>
          obtain ⟨v', H'', os, bare, un, hok, rv', p, rfl, hp, rfl⟩ := hq
          obtain rfl : u = .ref p := rv'
          have J2 : Inv X pins σ (upd H' p (.tup ((g n).map V.int))) s' := by
            obtain ⟨v2, H2, J, _, hv2, hH2⟩ := I'.after (Q := fun v2 H2 => v2 = .ref p ∧ H2 = upd H' p (.tup ((g n).map V.int))) (u := .ref p) ⟨.ref p, _, os, bare, un, hok, rfl, rfl, rfl⟩
            rw [hH2] at J
            exact J
          have stay : ∀ b o, sa.heap.get? b = some o → H' b = none → b ∉ frs X.stack → s'.heap.get? b = some o := fun b o e n nf => un.keep b o e n nf (by simp)
          have free : ∀ b o, sa.heap.get? b = some o → H' b = none → upd H' p (.tup ((g n).map V.int)) b = none := fun b o e n => un.free b o e n (by simp)
          obtain ⟨oi, hoi, hoi2⟩ := id st1
          have fS2 : FpOk X pins (upd H' p (.tup ((g n).map V.int))) S := ⟨free _ _ hS fS'.1, fS'.2⟩
          have fI2 : FpOk X pins (upd H' p (.tup ((g n).map V.int))) It := ⟨free _ _ hoi fI'.1, fI'.2⟩
          have hpp : upd H' p (.tup ((g n).map V.int)) p = some (.tup ((g n).map V.int)) := upd_same
          have npS : p ≠ S := ne_of_none hpp fS2.1
          have npI : p ≠ It := ne_of_none hpp fI2.1
          have nps : p ∉ frs X.stack := fun hm => by
            have := J2.stkFree p hm
            rw [hpp] at this
            cases this
          have nHp : H p = none := E'.same.free hp
          refine hQ (.ref p) s' ⟨_, J2, E'.tup hp, fS2, fI2, fun b o e n nf => ?_⟩ ⟨st1.at fun o e => stay _ _ e fI'.1 (nst fI'), ?_⟩ (stay _ _ hS fS'.1 (nst fS')) ?_ ?_
          · obtain ⟨k1, k2⟩ := KU b o e n nf
            exact ⟨stay _ _ k1 k2 nf, free _ _ k1 k2⟩
          · have hL2 : upd H' p (.tup ((g n).map V.int)) a = some (.lst (ns.map V.int)) := (E'.tup hp).same _ _ hL
            obtain ⟨its2, rv2, pl2, _⟩ := J2.list (SqL.of hL2)
            exact ⟨its2.toArray, pl2.isList, by simpa using rv2⟩
          · obtain ⟨z1, its3, rv3, tp3⟩ := hok p _ hpp
            exact ⟨p, its3.toArray, n, rfl, hn, nHp, nps, npS, npI, tp3, by simpa using rv3.ints⟩
          · rintro j k' ⟨t, its3, n3, rfl, hn3, ht, nf, tS, tI, tp, hi3⟩
            refine ⟨t, ?_⟩
            rcases E'.new t ht with z | ⟨xs, z⟩
            · obtain ⟨ot, e1, e2'⟩ := tp
              exact ⟨its3, n3, rfl, hn3, ht, nf, tS, tI, ⟨ot, stay _ _ e1 z nf, e2'⟩, hi3⟩
            · obtain ⟨_, its4, rv4, tp4⟩ := I'.hok t _ z
              have z2 := un.tups t xs z
              obtain ⟨_, its5, rv5, tp5⟩ := hok t _ z2
              have e4 : its3 = its4.toArray := by
                obtain ⟨oa, a1, a2, na, a3⟩ := tp
                obtain ⟨oc, b1, b2', nb, b3'⟩ := tp4
                rw [a1] at b1
                cases b1
                rw [a3] at b3'
                cases b3'
                rfl
              subst e4
              have hi4 : IntsAre its4 (g n3) := by simpa using hi3
              have ex : xs = (g n3).map V.int := by
                have r1 := vals_of_ints hi4
                exact vals_det rv4 r1
              subst ex
              exact ⟨its5.toArray, n3, rfl, hn3, ht, nf, tS, tI, tp5, by simpa using rv5.ints⟩
    · rintro i j ki kj sa Qk Ek _ ⟨t1, its1, n1, rfl, hn1, _, _, _, _, tp1, hi1⟩ ⟨t2, its2, n2, rfl, hn2, _, _, _, _, tp2, hi2⟩ hQ
      refine HT.lt_tupInts tp1 tp2 hi1 hi2 (by show X.A.units + 1 < cLine; omega) ?_
      rw [getD_of hn1, getD_of hn2] at hQ
      exact hQ
  · exact ⟨H, I2, Ext.refl H, fS, fI, fun b o e n nf => ⟨by rw [h2]; exact kp b o e, n⟩⟩
  · rintro v s' ⟨x, hx, rx⟩ ⟨H', I', E', _, _, _⟩
    have hpos : 0 < ns.length := List.length_pos_iff.mpr hne
    obtain ⟨b1, b2'⟩ := best_least g hg ns (ns.length - 1) (by omega)
    rw [hlen] at hx
    revert hx b1 b2'
    generalize argBest (fun i j => lexL (g (ns.getD i 0)) (g (ns.getD j 0))) (ns.length - 1) = z
    intro hx b1 b2'
    obtain ⟨m, hm⟩ : ∃ m, ns[z]? = some m := ⟨_, List.getElem?_eq_getElem (by omega)⟩
    rw [List.getElem?_map, hm] at hx
    obtain rfl : x = .int m := (Option.some.inj hx).symm
    refine ⟨.int m, H', I', rx, q m H' E' (List.mem_of_getElem? hm) fun n hn => ?_⟩
    obtain ⟨i, hi, e⟩ := List.getElem_of_mem hn
    have := b2' i (by omega)
    rw [getD_of hm, getD_of (List.getElem?_eq_getElem hi), e] at this
    exact this
end
end Ag

set_option maxHeartbeats 8000000
namespace Ag
open PySem PySem.Spec PyProof.Rows L2 LamX NdefX
/-! ### a def whose code object is known by its place -/
structure FunC (K : PySem.W.Frag) (x qual : Str) (st : Stmt) (f : Addr) (fd : FuncData) (c : Addr) : Prop where
  ex : ∃ (oc : Value) (od : Option Addr) (kV doc pm : Value) (an : Option Addr) (ct : Value) (osl : Array (Option Value)),
    fd = PySem.W.fnOf x qual (defArgs st) (defBody st) (defScope st) .none kV doc pm an (.ref c) ct ∧ K.lookup f = some ⟨oc, od, .func fd, osl⟩ ∧ PySem.W.codeIn K (.ref c) qual = true
  kp : PySem.W.keepIn K (.ref f) = true
section
variable {P : Program} {w : World} {K : PySem.W.Frag} {mg : Str → Option Value} {base : Heap}
theorem FunC.ok {x qual : Str} {st : Stmt} {f c : Addr} {fd : FuncData} {N ps : List Str} {k : Nat} {sp : Sp} (F : FunC K x qual st f fd c) (S : FnScope N ps (defScope st)) (len : ∀ vs H Q E, sp vs H Q E → vs.length = ps.length)
    (hbody : ∀ (A : Around) (outer : List Env) (s : Shared) (H : Hp) (vs : List V) (Q : VK) (E : XK), Room k (A.deeper (envOfC qual (defScope st) s.heap.objs.size f (.ref c))) → sp vs H Q E →
      ∃ t, PSs (cxOf CX0 P w K mg base N qual (defScope st) f (.ref c) A outer s H E).nox (defBody st) t ∧ t { nx := fun _ H' => Q .non H', rt := Q } (start N vs) H) : FnOk P w K mg base CX0 (k + 1) f fd ps sp := by
  obtain ⟨oc, od, kV, doc, pm, an, ct, osl, rfl, lk, hcd⟩ := F.ex
  refine fn_of lk hcd S len fun A outer s H vs Q E hr hsp => ?_
  obtain ⟨t, h, q⟩ := hbody A outer s H vs Q E hr hsp
  exact ⟨t, h.nox, q⟩
theorem FunC.binds {x qual : Str} {st : Stmt} {f c : Addr} {fd : FuncData} {ps : List Str} (F : FunC K x qual st f fd c)
    (h : ∀ (kV doc pm : Value) (an : Option Addr) (cdv ct : Value) (us : List Value), us.length = ps.length → bindArgs (PySem.W.fnOf x qual (defArgs st) (defBody st) (defScope st) .none kV doc pm an cdv ct) ⟨us, []⟩ = pure (ps.zip us)) : Binds K fd ps [] := by
  obtain ⟨oc, od, kV, doc, pm, an, ct, osl, rfl, lk, hcd⟩ := F.ex
  exact .all (h kV doc pm an (.ref c) ct)
end
/-! ### lambdas as arguments: what they ask of the running def -/
structure LamC (X : Cx) (T : List (Addr × Str)) (c P : Addr) (params : Arguments) (scope : Scope) (fr : List Str) (js : List Nat) : Prop where
  tb : TabB X.base X.mg c P
  code : X.env.code = .ref c
  mem : (P, X.env.qual ++ "<lambda>") ∈ T
  one : ∀ p ∈ T, p.1 = P → p.2 = X.env.qual ++ "<lambda>"
  dfl : defaultsOf params X.env = ([], [])
  fn : ∀ y, X.fn y = true
  free : ∀ y ∈ scope.names, y.2 = .free → X.env.scope.names.lookup y.1 = some .cell ∨ X.env.scope.names.lookup y.1 = some .free
  frs : ∀ y ∈ fr, (y, NameKind.free) ∈ scope.names
  jss : js.map (fun j => X.N[j]?) = fr.map some
abbrev lamF (X : Cx) (params : Arguments) (scope : Scope) (c' : Addr) : NF := ⟨"<lambda>", X.env.qual ++ "<lambda>", params, [], scope, cloFrom X.env.cells scope.names [], c'⟩
section
variable {X : Cx} {T : List (Addr × Str)} {c P : Addr} {params : Arguments} {body : Expr} {scope : Scope} {fr : List Str} {js : List Nat} {k j : Nat}
def one1 (R : V → Hp → Prop) : List V → Hp → Prop
  | [v], H => R v H
  | _, _ => False
theorem one1_of {R : V → Hp → Prop} : ∀ {vs : List V} {H : Hp}, one1 R vs H → ∃ v, vs = [v] ∧ R v H
  | [v], _, h => ⟨v, rfl, h⟩
  | [], _, h => h.elim
  | _ :: _ :: _, _, h => h.elim
/-- min(e, key=lambda ..) -/
def tMinL (X : Cx) (T : List (Addr × Str)) (params : Arguments) (body : Expr) (scope : Scope) (fr : List Str) (js : List Nat) (k : Nat) (te : TE) : TE := fun σ H Q => te σ H fun v H1 => Tabs T H1 ∧ ∃ (a : Addr) (ns : List Int), v = .ref a ∧ H1 a = some (.lst (ns.map V.int)) ∧ ns ≠ [] ∧
  ∀ (c' : Addr) (H2 : Hp), ExtN H1 H2 → Tabs T H2 → H2 c' = some (CodeO c' (X.env.qual ++ "<lambda>")) → ∃ g : Int → List Int, (∀ n, (g n).length = 3) ∧
    (∀ (b2 : Heap) (f : Addr), (∀ b o, X.base.get? b = some o → b2.get? b = some o) → LamB b2 f (lamF X params scope c') params body fr (js.map (slotAt σ)) → KeyFn X.prog X.w X.K X.mg b2 k f (· ∈ ns) (Ext H2) (ansT g)) ∧
    ∀ m H', Ext H2 H' → m ∈ ns → (∀ n ∈ ns, lexL (g n) (g m) = false) → Q (.int m) H'
theorem pe_minL {p lpos kpos pos : Pos} {e : Expr} {te : TE} (L : LamC X T c P params scope fr js) (hc : X.calm = true) (hr : Room (j + 1) X.A) (hk : k ≤ j) (hg : Gl X "min") (hm : X.mg "min" = none) (he0 : PE X e te) (hs0 : starEach [e] X.env = (false, eval e X.env) :: starEach [] X.env := by rfl)
    (he : backTo pos (starEach (e :: []) X.env) = (false, eval e X.env) :: backTo pos (starEach [] X.env) := by rfl) (hpl : (backTo pos (starEach (e :: []) X.env)).any (·.1) = false := by rfl)
    (hall : (backToKw pos (keywordEach [⟨some "key", .Lambda params body scope lpos, kpos⟩] X.env)).all (·.1.isSome) = true := by rfl) (hnone : (backToKw pos (keywordEach [⟨some "key", .Lambda params body scope lpos, kpos⟩] X.env)).any (·.1.isNone) = false := by rfl)
    (hks : (backToKw pos (keywordEach [⟨some "key", .Lambda params body scope lpos, kpos⟩] X.env)).filterMap (·.1) = [Str.ofString "key"] := by rfl) :
    PE X (.Call (.Name "min" p) [e] [⟨some "key", .Lambda params body scope lpos, kpos⟩] pos) (tMinL X T params body scope fr js k te) := by
  refine ⟨fun pins s σ H Q I h => ?_⟩
  have hfree : ∀ y ∈ scope.names, y.2 = .free → ∃ c, X.env.cells.lookup y.1 = some c := fun y hy e => (L.free y hy e).elim (fun z => I.ok.has _ (.inl z)) fun z => I.ok.has _ (.inr z)
  refine wpAny_Call_Name_kw (ld_blt I hg hm (by decide +kernel : bootBuiltins "min" = some (.builtin "min")) ?_ (by decide) (by decide))
  refine PyProof.Rows.callWith_kw (thn ((pa_cons he0 pa_nil hs0).run pos pins s σ H (one1 _) I h) fun us s1 ⟨vs, H1, I1, r1, q1⟩ => ?_) he hpl hall hnone
  rw [hks]
  obtain ⟨v, rfl, hT, a, ns, rfl, hL, hne, q1⟩ := one1_of q1
  obtain ⟨u, rfl, ru⟩ := vals1 r1
  obtain rfl : u = .ref a := ru
  show wpAny _ _ (evalAll ((do let v ← eval (.Lambda params body scope lpos) X.env; standAt pos; pure v) :: [])) _ _ s1
  refine wpAny_evalAll_cons (wpAny_bind (lam_make2 I1 L.tb L.code L.mem L.one hT L.dfl hfree fun f c' pm ctv H2 s2 I2 eN T2 hf nf nfr hc' => wpAny_bind (wpAny_standAt (wpAny_pure ?_))))
  refine wpAny_evalAll_nil ?_
  obtain ⟨g, hg3, Fn, q2⟩ := q1 c' H2 eN T2 hc'
  have hL2 : H2 a = some (.lst (ns.map V.int)) := eN _ _ hL (fun ps z => by cases z)
  refine min_key I2 hc hr hk hL2 hne hg3 hf nf nfr (fun b2 up in2 => Fn b2 f up ?_) q2
  exact lamB_made I2 L.fn (Caps.made I2.ok L.free L.frs L.jss) hf nf nfr in2
/-- o.m(e, lambda ..): the lambda is told to the method as a function in a wider base -/
def tMethL (X : Cx) (T : List (Addr × Str)) (params : Arguments) (body : Expr) (scope : Scope) (fr : List Str) (js : List Nat) (k : Nat) (C fm : Addr) (fd : FuncData) (ps : List Str) (m : Str) (ta te : TE) : TE := fun σ H Q => ta σ H fun x H1 => ∃ a dx fs, x = .ref a ∧ H1 a = some (.ins C dx fs) ∧ fs.lookup m = none ∧
  te σ H1 fun y H2 => Tabs T H2 ∧ ∀ (c' : Addr) (H3 : Hp), ExtN H2 H3 → Tabs T H3 → H3 c' = some (CodeO c' (X.env.qual ++ "<lambda>")) → ∃ sp : Addr → Sp,
    (∀ (b2 : Heap) (f : Addr), (∀ b o, X.base.get? b = some o → b2.get? b = some o) → X.K.In b2 → b2.Ns mainGlobals X.mg → LamB b2 f (lamF X params scope c') params body fr (js.map (slotAt σ)) → FnOk X.prog X.w X.K X.mg b2 CX0 k fm fd ps (sp f)) ∧
    ∀ f, sp f [.ref a, y, .ref f] H3 Q E0
theorem pe_methL {o e1 : Expr} {m : Str} {apos lpos pos : Pos} {C fm : Addr} {fd : FuncData} {ps : List Str} {ta te : TE} {pl : Sem Bool} (L : LamC X T c P params scope fr js) (ho : PE X o ta) (he : PE X e1 te) (cl : Cls X.K C) (hm : Meth X.K C m fm) (hr : Room k X.A) (hb : Binds X.K fd ps [])
    (hst : starEach [e1, .Lambda params body scope lpos] X.env = (false, eval e1 X.env) :: starEach [.Lambda params body scope lpos] X.env := by rfl) (hpl : (backTo pos (starEach [.Lambda params body scope lpos] X.env)).any (·.1) = false := by rfl)
    (hst2 : starEach [.Lambda params body scope lpos] X.env = (false, eval (.Lambda params body scope lpos) X.env) :: starEach [] X.env := by rfl)
    (ht : eval (.Call (.Attribute o m apos) [e1, .Lambda params body scope lpos] [] pos) X.env = (do
      let ov ← eval o X.env
      standAt apos.atName
      let (f, first) ← holding [ov] (getMethod ov m pl)
      callWith pos f first (backTo pos (starEach [e1, .Lambda params body scope lpos] X.env)) (backToKw pos (keywordEach [] X.env))) := by rfl) :
    PE X (.Call (.Attribute o m apos) [e1, .Lambda params body scope lpos] [] pos) (tMethL X T params body scope fr js k C fm fd ps m ta te) := by
  refine ⟨fun pins s σ H Q I h => ?_⟩
  have hfree : ∀ y ∈ scope.names, y.2 = .free → ∃ c, X.env.cells.lookup y.1 = some c := fun y hy e => (L.free y hy e).elim (fun z => I.ok.has _ (.inl z)) fun z => I.ok.has _ (.inr z)
  refine PySem.W.methodCall_KW (pl := pl) (thn (ho.run pins s σ H _ I h) fun u s1 ⟨x, H1, I1, rx, a, dx, fs, ex, ea, l, q⟩ => ?_) ht
  subst ex
  obtain rfl : u = Value.ref a := rx
  refine getmeth_ok I1 ea cl hm l ?_
  refine PySem.W.callWith_K (first := [.ref a]) (h₀ := X.base) I.ok.mod.kin hm.kp ?_ hst hpl
  rw [hst]
  show wpAny _ _ (spliced ((false, eval e1 X.env) :: backTo pos (starEach [.Lambda params body scope lpos] X.env))) _ _ s1
  refine Calls.spliced_cons (thn (he.run pins s1 σ H1 _ I1 q) fun u2 s2 ⟨y, H2, I2, r2, hT, q2⟩ => ?_)
  rw [hst2]
  show wpAny _ _ (spliced ((false, eval (.Lambda params body scope lpos) X.env) :: backTo pos (starEach [] X.env))) _ _ s2
  refine Calls.spliced_cons (lam_make2 I2 L.tb L.code L.mem L.one hT L.dfl hfree fun f c' pm ctv H3 s3 I3 eN T3 hf nf nfr hc' => ?_)
  refine Calls.spliced_nil ⟨I3.kIn, ?_⟩
  obtain ⟨sp, Fn, q3⟩ := q2 c' H3 eN T3 hc'
  obtain ⟨b2, e2, up2, in2⟩ := env0_rebase I3.env0
  have F := Fn b2 f up2 e2.mod.kin e2.mod.glob (lamB_made I3 L.fn (Caps.made I3.ok L.free L.frs L.jss) hf nf nfr in2)
  have r3 : Vals [V.ref a, y, .ref f] [Value.ref a, u2, .ref f] := .cons rfl (.cons r2 (.cons rfl .nil))
  have q4 := q3 f
  have hl : ([Value.ref a, u2, .ref f] ++ []).length = ps.length := by
    have := F.len _ _ _ _ q4
    exact this
  show wpAny _ _ (call (.ref fm) [.ref a, u2, .ref f]) _ _ _
  refine wpAny_call (codeAny_mono (F.run X.A X.stack s3 H3 ⟨[.ref a, u2, .ref f], []⟩ ([.ref a, u2, .ref f] ++ []) [.ref a, y, .ref f] Q E0 hr e2 (hb s3 _ I3.kIn hl) r3 q4) fun r s' hq => ?_)
  cases r with
  | error e => exact False.elim hq
  | ok fl =>
    cases fl with
    | ret u => exact I3.after hq
    | next => exact False.elim hq
    | brk => exact False.elim hq
    | cont => exact False.elim hq
end
end Ag

namespace Ag
open PySem PySem.Spec PyProof.Rows L2 LamX NdefX
/-! ### what an arm chooses -/
structure ArmS where
  now : Int
  here : Int
  up : Bool
  left : List Nat
def come (l : List Ask) (n : Nat) : Int := (l.getD n (0, 0, 0)).1
def trk (l : List Ask) (n : Nat) : Int := (l.getD n (0, 0, 0)).2.1
/-- the first of the least keys -/
def pick (g : Nat → List Int) : List Nat → Nat
  | [] => 0
  | x :: r => r.foldl (fun a y => if lexL (g y) (g a) then y else a) x
theorem lexL_anti {a b : List Int} (ha : a.length = 3) (hb : b.length = 3) (h1 : lexL a b = false) (h2 : lexL b a = false) : a = b := by
  match a, b, ha, hb with
  | [a1, a2, a3], [b1, b2, b3], _, _ =>
    have key : ∀ x y : Int, decide (x < y) = false → decide (y < x) = false → x = y := fun x y h h' => by
      have h := of_decide_eq_false h
      have h' := of_decide_eq_false h'
      omega
    unfold lexL at h1 h2
    rw [HT.lexLt_cons] at h1 h2
    by_cases e1 : a1 = b1
    · rw [if_pos e1, HT.lexLt_cons] at h1
      rw [if_pos e1.symm, HT.lexLt_cons] at h2
      by_cases e2 : a2 = b2
      · rw [if_pos e2, HT.lexLt_cons] at h1
        rw [if_pos e2.symm, HT.lexLt_cons] at h2
        by_cases e3 : a3 = b3
        · rw [e1, e2, e3]
        · rw [if_neg e3] at h1
          rw [if_neg (fun z => e3 z.symm)] at h2
          exact absurd (key _ _ h1 h2) e3
      · rw [if_neg e2] at h1
        rw [if_neg (fun z => e2 z.symm)] at h2
        exact absurd (key _ _ h1 h2) e2
    · rw [if_neg e1] at h1
      rw [if_neg (fun z => e1 z.symm)] at h2
      exact absurd (key _ _ h1 h2) e1
theorem pick_least (g : Nat → List Int) (hg : ∀ n, (g n).length = 3) : ∀ (r : List Nat) (x : Nat), r.foldl (fun a y => if lexL (g y) (g a) then y else a) x ∈ x :: r ∧
    ∀ n ∈ x :: r, lexL (g n) (g (r.foldl (fun a y => if lexL (g y) (g a) then y else a) x)) = false
  | [], x => ⟨List.mem_cons_self, fun n hn => by
    rcases List.mem_cons.mp hn with rfl | hn
    · exact lexL_irr _
    · cases hn⟩
  | y :: r, x => by
    rw [List.foldl_cons]
    obtain ⟨h1, h2⟩ := pick_least g hg r (if lexL (g y) (g x) then y else x)
    revert h1 h2
    generalize List.foldl (fun a y => if lexL (g y) (g a) then y else a) (if lexL (g y) (g x) then y else x) r = m
    intro h1 h2
    refine ⟨?_, fun n hn => ?_⟩
    · rcases List.mem_cons.mp h1 with h | h
      · rw [h]
        split
        · exact List.mem_cons_of_mem _ List.mem_cons_self
        · exact List.mem_cons_self
      · exact List.mem_cons_of_mem _ (List.mem_cons_of_mem _ h)
    · have h0 := h2 _ List.mem_cons_self
      rcases List.mem_cons.mp hn with rfl | hn
      · by_cases hb : lexL (g y) (g n) = true
        · rw [if_pos hb] at h0
          cases hz : lexL (g n) (g m) with
          | false => rfl
          | true =>
            have := lexL_trans (hg m) (hg n) (hg y) hz h0
            rw [this] at hb
            cases hb
        · rw [if_neg hb] at h0
          exact h0
      · rcases List.mem_cons.mp hn with rfl | hn
        · by_cases hb : lexL (g n) (g x) = true
          · rw [if_pos hb] at h0
            exact h0
          · rw [if_neg hb] at h0
            have hb' : lexL (g n) (g x) = false := by simpa using hb
            cases hz : lexL (g n) (g m) with
            | false => rfl
            | true =>
              have h3 : lexL (g x) (g m) = false := h0
              cases hq : lexL (g m) (g x) with
              | false =>
                have e := lexL_anti (hg x) (hg m) h3 hq
                rw [← e] at hz
                rw [hz] at hb'
                cases hb'
              | true =>
                have := lexL_trans (hg x) (hg m) (hg n) hq hb'
                rw [this] at hz
                cases hz
        · exact h2 n (List.mem_cons_of_mem _ hn)
theorem pick_mem {g : Nat → List Int} (hg : ∀ n, (g n).length = 3) {l : List Nat} (h : l ≠ []) : pick g l ∈ l := by
  cases l with
  | nil => exact absurd rfl h
  | cons x r => exact (pick_least g hg r x).1
theorem pick_le {g : Nat → List Int} (hg : ∀ n, (g n).length = 3) {l : List Nat} {n : Nat} (hn : n ∈ l) : lexL (g n) (g (pick g l)) = false := by
  cases l with
  | nil => cases hn
  | cons x r => exact (pick_least g hg r x).2 n hn
/-- the least is this one, if the keys tell apart -/
theorem pick_is {g : Nat → List Int} (hg : ∀ n, (g n).length = 3) (inj : ∀ m n, g m = g n → m = n) {l : List Nat} {m : Nat} (hm : m ∈ l) (h : ∀ n ∈ l, lexL (g n) (g m) = false) : m = pick g l := by
  have hne : l ≠ [] := List.ne_nil_of_mem hm
  exact inj _ _ (lexL_anti (hg _) (hg _) (pick_le hg hm) (h _ (pick_mem hg hne)))
/-- the key with come and number behind it -/
def key3 (l : List Ask) (g : Nat → Int) (n : Nat) : List Int := [g n, come l n, (n : Int)]
theorem key3_len (l : List Ask) (g : Nat → Int) (n : Nat) : (key3 l g n).length = 3 := rfl
theorem key3_inj (l : List Ask) (g : Nat → Int) (m n : Nat) (h : key3 l g m = key3 l g n) : m = n := by
  unfold key3 at h
  injection h with _ h
  injection h with _ h
  injection h with h _
  omega
end Ag

namespace Ag
open PySem PySem.Spec PyProof.Rows L2 LamX NdefX
theorem pe_fldK {X : Cx} {K : PySem.W.Frag} {e : Expr} {f : Str} {pos : Pos} {ta : TE} (he : PE X e ta) (hK : X.K = K := by rfl) (hb : attributeBase e f X.env (eval e X.env) = eval e X.env := by rfl) : PE X (.Attribute e f pos) (tFld K ta f) := by
  subst hK
  exact pe_fld he hb
theorem rd_seq {a b : TS} {D : Ends} {σ : L2.St} {H : Hp} (h : a { D with nx := b D } σ H) : tSeq a b D σ H := h
theorem rd_if {c : TT} {a b : TS} {D : Ends} {σ : L2.St} {H : Hp} (h : c σ H fun k H1 => if k = true then a D σ H1 else b D σ H1) : tIfS c a b D σ H := h
theorem rd_test {t : TE} {σ : L2.St} {H : Hp} {Q : Bool → Hp → Prop} (h : t σ H fun x H' => ∃ k, x = .bl k ∧ Q k H') : tTest t σ H Q := h
theorem rd_op {r : R2} {ta tb : TE} {σ : L2.St} {H : Hp} {Q : VK} (h : ta σ H fun x H1 => tb σ H1 fun y H2 => r x y H2 Q) : tOp r ta tb σ H Q := h
theorem rd_ret {t : TE} {D : Ends} {σ : L2.St} {H : Hp} (h : t σ H D.rt) : tRet t D σ H := h
theorem rd_next {D : Ends} {σ : L2.St} {H : Hp} (h : D.nx σ H) : tNext D σ H := h
def b1 (u : Bool) : Int := if u then 1 else 0
def aheadU (l : List Ask) (st : ArmS) (pool : List Nat) : List Nat := pool.filter fun n => decide (0 ≤ (trk l n - st.here) * (2 * b1 st.up - 1))
def aheadL (l : List Ask) (st : ArmS) (pool : List Nat) : List Nat := pool.filter fun n => decide (0 ≤ trk l n - st.here)
def farK (l : List Ask) (st : ArmS) (n : Nat) : Int := iabs (trk l n - st.here)
def sweptN (l : List Ask) (st : ArmS) (pool : List Nat) : Nat := pick (key3 l (farK l st)) (if aheadU l st pool = [] then pool else aheadU l st pool)
def sweptU (l : List Ask) (st : ArmS) (pool : List Nat) : Bool := if aheadU l st pool = [] then !st.up else st.up
def loopedN (l : List Ask) (st : ArmS) (pool : List Nat) : Nat := pick (key3 l (trk l)) (if aheadL l st pool = [] then pool else aheadL l st pool)
inductive Rule where
  | first | near | soon | sweep | loop
def ruleS : Rule → Str
  | .first => "first"
  | .near => "near"
  | .soon => "soon"
  | .sweep => "sweep"
  | .loop => "loop"
def soonK (d : Disk) (l : List Ask) (st : ArmS) (n : Nat) : Int := serve d st.now st.here (l.getD n (0, 0, 0))
def choseN (d : Disk) (l : List Ask) (st : ArmS) (pool : List Nat) : Rule → Nat
  | .first => pick (key3 l fun _ => 0) pool
  | .near => pick (key3 l (farK l st)) pool
  | .soon => pick (key3 l (soonK d l st)) pool
  | .sweep => sweptN l st pool
  | .loop => loopedN l st pool
def choseU (l : List Ask) (st : ArmS) (pool : List Nat) : Rule → Bool
  | .sweep => sweptU l st pool
  | _ => st.up
/-- those who have come -/
def arrived (l : List Ask) (now : Int) (left : List Nat) : List Nat := left.filter fun n => decide (come l n ≤ now)
def leastI : List Int → Int
  | [] => 0
  | x :: r => r.foldl (fun a y => if y < a then y else a) x
theorem leastI_go : ∀ (r : List Int) (x : Int), r.foldl (fun a y => if y < a then y else a) x ∈ x :: r ∧ ∀ n ∈ x :: r, r.foldl (fun a y => if y < a then y else a) x ≤ n
  | [], x => ⟨List.mem_cons_self, fun n hn => by
    rcases List.mem_cons.mp hn with rfl | hn
    · exact Int.le_refl _
    · cases hn⟩
  | y :: r, x => by
    rw [List.foldl_cons]
    obtain ⟨h1, h2⟩ := leastI_go r (if y < x then y else x)
    revert h1 h2
    generalize List.foldl (fun a y => if y < a then y else a) (if y < x then y else x) r = m
    intro h1 h2
    have h0 := h2 _ List.mem_cons_self
    refine ⟨?_, fun n hn => ?_⟩
    · rcases List.mem_cons.mp h1 with h | h
      · rw [h]
        split
        · exact List.mem_cons_of_mem _ List.mem_cons_self
        · exact List.mem_cons_self
      · exact List.mem_cons_of_mem _ (List.mem_cons_of_mem _ h)
    · rcases List.mem_cons.mp hn with rfl | hn
      · split at h0 <;> omega
      · rcases List.mem_cons.mp hn with rfl | hn
        · split at h0 <;> omega
        · exact h2 n (List.mem_cons_of_mem _ hn)
theorem leastI_is {l : List Int} {m : Int} (hm : m ∈ l) (h : ∀ n ∈ l, m ≤ n) : m = leastI l := by
  cases l with
  | nil => cases hm
  | cons x r =>
    obtain ⟨h1, h2⟩ := leastI_go r x
    have a := h _ h1
    have b := h2 _ hm
    show m = r.foldl _ x
    omega
def wakeNow (l : List Ask) (st : ArmS) : Int := if arrived l st.now st.left = [] then leastI (st.left.map (come l)) else st.now
def wake (l : List Ask) (st : ArmS) : ArmS := { st with now := wakeNow l st }
def waitN (l : List Ask) (st : ArmS) : List Nat := arrived l (wakeNow l st) st.left
/-- the next ask served, and the arm behind it -/
def nextN (d : Disk) (l : List Ask) (r : Rule) (st : ArmS) : Nat := choseN d l (wake l st) (waitN l st) r
def nextS (d : Disk) (l : List Ask) (r : Rule) (st : ArmS) : ArmS where
  now := serve d (wakeNow l st) st.here (l.getD (nextN d l r st) (0, 0, 0))
  here := trk l (nextN d l r st)
  up := choseU l (wake l st) (waitN l st) r
  left := st.left.erase (nextN d l r st)
/-- the arm behind so many steps, and the rows that it has served -/
def runS (d : Disk) (l : List Ask) (r : Rule) : Nat → ArmS → ArmS
  | 0, st => st
  | k + 1, st => nextS d l r (runS d l r k st)
def rowsS (d : Disk) (l : List Ask) (r : Rule) (st : ArmS) : Nat → List (Nat × Int)
  | 0 => []
  | k + 1 => rowsS d l r st k ++ [(nextN d l r (runS d l r k st), (nextS d l r (runS d l r k st)).now)]
def armS0 (d : Disk) (l : List Ask) : ArmS := ⟨0, d.he, true, List.range l.length⟩
def ruledR (d : Disk) (l : List Ask) (r : Rule) : List (Nat × Int) := rowsS d l r (armS0 d l) l.length
theorem filter_step {c : Nat → Bool} {pool : List Nat} {i n : Nat} (h : pool[i]? = some n) : (pool.take (i + 1)).filter c = (pool.take i).filter c ++ if c n = true then [n] else [] := by
  rw [take_more h, List.filter_append]
  cases hc : c n with
  | true => rw [List.filter_cons_of_pos hc]; simp
  | false => rw [List.filter_cons_of_neg (by rw [hc]; exact Bool.false_ne_true)]; simp
theorem nints_filter_len {c : Nat → Bool} {pool : List Nat} {i : Nat} : ((nints ((pool.take i).filter c)).map V.int).length ≤ pool.length := by
  rw [List.length_map, nints_len]
  exact Nat.le_trans (List.length_filter_le _ _) (by rw [List.length_take]; omega)
end Ag

namespace Ag
open PySem PySem.Spec PyProof.Rows L2
/-! ### the text -/
def top (i : Nat) : Stmt := PySem.Challenge.pw_armorder_k11_asked_again.main.body.getD i (.Pass ⟨0, 0, 0, 0⟩)
theorem ifd_t {p : Prop} [Decidable p] {A B : Prop} (h : p) (a : A) : if decide p = true then A else B := by
  rw [decide_eq_true h]
  exact iteT a
theorem ifd_f {p : Prop} [Decidable p] {A B : Prop} (h : ¬ p) (b : B) : if decide p = true then A else B := by
  rw [decide_eq_false h]
  exact iteF b
theorem ifnd_t {p : Prop} [Decidable p] {A B : Prop} (h : p) (b : B) : if (!decide p) = true then A else B := by
  rw [decide_eq_true h]
  exact iteF b
theorem ifnd_f {p : Prop} [Decidable p] {A B : Prop} (h : ¬ p) (a : A) : if (!decide p) = true then A else B := by
  rw [decide_eq_false h]
  exact iteT a
theorem if2d {p : Prop} [Decidable p] {A B : Prop} (h1 : p → A) (h2 : ¬ p → B) : if decide p = true then A else B := by
  by_cases h : p
  · exact ifd_t h (h1 h)
  · exact ifd_f h (h2 h)
theorem rel_int {i : Int} {t : Tok} : RelV (.int i) (.int i t) := ⟨_, rfl⟩
/-- a def that is called: its name, that it stays, how its arguments bind -/
structure Cal (K : PySem.W.Frag) (mg : Str → Option Value) (x : Str) (f : Addr) (fd : FuncData) (ps : List Str) : Prop where
  m : mg x = some (.ref f)
  k : PySem.W.keepIn K (.ref f) = true
  b : Binds K fd ps []
/-! ### need_disk -/
abbrev s_need_disk : Stmt := top 14
def sp_need_disk (K : PySem.W.Frag) : Sp := fun vs H Q _ => ∃ (v : V) (d : Disk), vs = [v] ∧ Dp K H v (dDisk d) ∧ GoodDisk d ∧ Q .non H
theorem sc_need_disk : FnScope ["disk", "tracks", "sectors", "pace", "here"] ["disk"] (defScope s_need_disk) := ⟨rfl, rfl, rfl, by decide +kernel, rfl, by decide +kernel, by decide +kernel⟩
section
variable {P : Program} {w : World} {K : PySem.W.Frag} {mg : Str → Option Value} {base : Heap}
theorem ok_need_disk {f : Addr} {fd : FuncData} (F : Fun K "need_disk" "need_disk" s_need_disk f fd) {t1 t2 t3 : Tok} (m1 : mg "MOST_TRACKS" = some (.int 64 t1)) (m2 : mg "MOST_SECTORS" = some (.int 16 t2)) (m3 : mg "MOST_PACE" = some (.int 4 t3)) :
    FnOk P w K mg base CX0 1 f fd ["disk"] (sp_need_disk K) := by
  refine F.ok sc_need_disk (fun vs H Q E h => ?_) (fun cdv A outer s H vs Q E hr h => ?_)
  · obtain ⟨v, d, rfl, _⟩ := h
    rfl
  · obtain ⟨v, d, rfl, hd, g, q⟩ := h
    obtain ⟨a, rfl, hT⟩ := dp_disk hd
    have nd := sc_need_disk.nd
    refine ⟨_, pss_cons (ps_asg (pv 0) (pg_tup rfl (pgs_cons (pg_name (i := 1) nd rfl (.inl rfl)) (pgs_cons (pg_name (i := 2) nd rfl (.inl rfl)) (pgs_cons (pg_name (i := 3) nd rfl (.inl rfl)) (pgs_cons (pg_name (i := 4) nd rfl (.inl rfl)) pgs_nil))))))
      (pss_cons (ps_if (pt_not (pt_chain op_le op_le pe_int (pv 1) (pe_glob rfl m1 rel_int))) (pss_one ps_never) pss_nil)
      (pss_cons (ps_if (pt_not (pt_chain op_le op_le pe_int (pv 2) (pe_glob rfl m2 rel_int))) (pss_one ps_never) pss_nil)
      (pss_cons (ps_if (pt_not (pt_chain op_le op_le pe_int (pv 3) (pe_glob rfl m3 rel_int))) (pss_one ps_never) pss_nil)
      (pss_one (ps_if (pt_not (pt_chain op_le op_lt pe_int (pv 4) (pv 1))) (pss_one ps_never) pss_nil))))), ?_⟩
    refine ⟨_, rfl, a, _, rfl, hT, rfl, _, _, rfl, _, _, rfl, _, _, rfl, _, _, rfl, rfl, ?_⟩
    refine ⟨_, rfl, _, _, rfl, rfl, _, rfl, ifd_t g.t1 ⟨_, _, rfl, rfl, _, rfl, ifnd_t g.t2 ?_⟩⟩
    refine ⟨_, rfl, _, _, rfl, rfl, _, rfl, ifd_t g.s1 ⟨_, _, rfl, rfl, _, rfl, ifnd_t g.s2 ?_⟩⟩
    refine ⟨_, rfl, _, _, rfl, rfl, _, rfl, ifd_t g.p1 ⟨_, _, rfl, rfl, _, rfl, ifnd_t g.p2 ?_⟩⟩
    refine ⟨_, rfl, _, _, rfl, rfl, _, rfl, ifd_t g.h1 ⟨_, rfl, _, _, rfl, rfl, _, rfl, ifnd_t g.h2 ?_⟩⟩
    exact q
end
/-! ### need_asks -/
abbrev s_need_asks : Stmt := top 15
def sp_need_asks (K : PySem.W.Frag) : Sp := fun vs H Q _ => ∃ (v u : V) (d : Disk) (l : List Ask), vs = [v, u] ∧ Dp K H v (dDisk d) ∧ Dp K H u (dAsks l) ∧ GoodAsks d l ∧ Q .non H
theorem sc_need_asks : FnScope ["disk", "asks", "number", "come", "track", "sector", "good"] ["disk", "asks"] (defScope s_need_asks) := ⟨rfl, rfl, rfl, by decide +kernel, rfl, by decide +kernel, by decide +kernel⟩
section
variable {P : Program} {w : World} {K : PySem.W.Frag} {mg : Str → Option Value} {base : Heap}
theorem ok_need_asks {f : Addr} {fd : FuncData} (F : Fun K "need_asks" "need_asks" s_need_asks f fd) (mr : mg "range" = none) (ml : mg "len" = none) {t1 t2 : Tok} (m1 : mg "MOST_ASKS" = some (.int 40 t1)) (m2 : mg "MOST_COME" = some (.int 999 t2)) :
    FnOk P w K mg base CX0 1 f fd ["disk", "asks"] (sp_need_asks K) := by
  refine F.ok sc_need_asks (fun vs H Q E h => ?_) (fun cdv A outer s H vs Q E hr h => ?_)
  · obtain ⟨v, u, d, l, rfl, _⟩ := h
    rfl
  · obtain ⟨v, u, d, l, rfl, hd, ha, g, q⟩ := h
    obtain ⟨a, rfl, hT⟩ := dp_disk hd
    obtain ⟨b, xs, rfl, hL, hlen, hat⟩ := dp_asks ha
    have nd := sc_need_asks.nd
    refine ⟨_, pss_one (ps_for PassesOwn.never rfl (pi_range1 rfl mr (pa_cons (pe_callB call_len_seq (by rfl) ml PySem.boot_len (pa_cons (pv 1) pa_nil)) pa_nil)) (pg_name (i := 2) nd rfl (.inl rfl))
      (pss_cons (ps_asg (pe_ix ix_list (pv 1) (pv 2) (fun _ _ => rfl)) (pg_tup rfl (pgs_cons (pg_name (i := 3) nd rfl (.inl rfl)) (pgs_cons (pg_name (i := 4) nd rfl (.inl rfl)) (pgs_cons (pg_name (i := 5) nd rfl (.inl rfl)) pgs_nil)))))
      (pss_cons (ps_set (i := 6) nd rfl (.inl rfl) (pe_and (pe_cmpR op_lt (pv 2) (pe_glob rfl m1 rel_int) (nomark _)) (pe_one (pe_chain op_le op_le pe_int (pv 3) (pe_glob rfl m2 rel_int)))))
      (pss_one (ps_if (PW.pt (pw_or (pt_not (pt_val (pv 6))) (pw_or (pt_not (pt_chain op_le op_lt pe_int (pv 4) (pe_ix ix_tup (pv 0) pe_int (fun _ _ => rfl)))) (pw_or1 (pt_not (pt_chain op_le op_lt pe_int (pv 5) (pe_ix ix_tup (pv 0) pe_int (fun _ _ => rfl)))))))) (pss_one ps_never) pss_nil))))), ?_⟩
    have h40 := g.len
    refine ⟨_, rfl, b, xs, rfl, .inl hL, _, rfl, by rw [hlen]; omega, by rw [hlen]; omega, ?_⟩
    refine for_range (lo := 0) (n := xs.length) (fun i σ H' => H' = H ∧ ∃ v2 v3 v4 v5 v6, σ = [some (.ref a), some (.ref b), v2, v3, v4, v5, v6]) ⟨rfl, none, none, none, none, none, rfl⟩ ?_ ?_
    · rintro i σ H' hi ⟨rfl, v2, v3, v4, v5, v6, rfl⟩
      obtain ⟨k, hk⟩ : ∃ k, l[i]? = some k := ⟨_, List.getElem?_eq_getElem (by omega)⟩
      obtain ⟨p, hp, hpT, _⟩ := hat i k hk
      have ga := g.at hk
      refine ⟨_, rfl, _, rfl, b, xs, (i : Int), .ref p, rfl, by rw [Int.zero_add], hL, atI_nat hp, ?_⟩
      refine ⟨p, _, rfl, hpT, rfl, _, _, rfl, _, _, rfl, _, _, rfl, rfl, ?_⟩
      refine ⟨_, rfl, _, _, rfl, rfl, _, rfl, ifd_t (by omega) ?_⟩
      refine ⟨_, rfl, _, _, rfl, rfl, _, rfl, ifd_t ga.c1 ⟨_, _, rfl, rfl, ?_⟩⟩
      refine ⟨_, rfl, _, rfl, ifnd_t ga.c2 ?_⟩
      refine ⟨_, rfl, _, _, rfl, rfl, _, rfl, ifd_t ga.t1 ⟨_, rfl, a, _, 0, _, rfl, rfl, hT, atI_nat (j := 0) rfl, _, _, rfl, rfl, _, rfl, ifnd_t ga.t2 ?_⟩⟩
      refine ⟨_, rfl, _, _, rfl, rfl, _, rfl, ifd_t ga.s1 ⟨_, rfl, a, _, 1, _, rfl, rfl, hT, atI_nat (j := 1) rfl, _, _, rfl, rfl, _, rfl, ifnd_t ga.s2 ?_⟩⟩
      exact ⟨rfl, _, _, _, _, _, rfl⟩
    · rintro σ H' ⟨rfl, _⟩
      exact q
end
/-! ### served -/
abbrev s_served : Stmt := top 16
def sp_served (K : PySem.W.Frag) : Sp := fun vs H Q _ => ∃ (v u : V) (d : Disk) (now here : Int) (a : Ask), vs = [v, .int now, .int here, u] ∧ Dp K H v (dDisk d) ∧ Dp K H u (dAsk a) ∧ GoodDisk d ∧ Q (.int (serve d now here a)) H
theorem sc_served : FnScope ["disk", "now", "here", "ask", "come", "track", "sector", "there"] ["disk", "now", "here", "ask"] (defScope s_served) := ⟨rfl, rfl, rfl, by decide +kernel, rfl, by decide +kernel, by decide +kernel⟩
section
variable {P : Program} {w : World} {K : PySem.W.Frag} {mg : Str → Option Value} {base : Heap}
theorem ok_served {f : Addr} {fd : FuncData} (F : Fun K "served" "served" s_served f fd) (mm : mg "max" = none) (ma : mg "abs" = none) : FnOk P w K mg base CX0 1 f fd ["disk", "now", "here", "ask"] (sp_served K) := by
  refine F.ok sc_served (fun vs H Q E h => ?_) (fun cdv A outer s H vs Q E hr h => ?_)
  · obtain ⟨v, u, d, now, here, a, rfl, _⟩ := h
    rfl
  · obtain ⟨v, u, d, now, here, ask, rfl, hd, hk, g, q⟩ := h
    obtain ⟨a, rfl, hT⟩ := dp_disk hd
    obtain ⟨b, rfl, hA⟩ := dp_tints hk
    have nd := sc_served.nd
    refine ⟨_, pss_cons (ps_asg (pv 3) (pg_tup rfl (pgs_cons (pg_name (i := 4) nd rfl (.inl rfl)) (pgs_cons (pg_name (i := 5) nd rfl (.inl rfl)) (pgs_cons (pg_name (i := 6) nd rfl (.inl rfl)) pgs_nil)))))
      (pss_cons (ps_set (i := 7) nd rfl (.inl rfl) (pe_op op_add (pe_callB (call_max2 rfl) (by rfl) mm (by decide +kernel) (pa_cons (pv 1) (pa_cons (pv 4) pa_nil))) (pe_op op_mul (pe_callB call_abs (by rfl) ma (by decide +kernel) (pa_cons (pe_op op_sub (pv 5) (pv 2)) pa_nil)) (pe_ix ix_tup (pv 0) pe_int (fun _ _ => rfl)))))
      (pss_one (ps_ret (pe_op op_add (pe_op op_add (pv 7) (pe_op op_mod (pe_op op_sub (pv 6) (pv 7)) (pe_ix ix_tup (pv 0) pe_int (fun _ _ => rfl)))) pe_int)))), ?_⟩
    refine ⟨_, rfl, b, _, rfl, hA, rfl, _, _, rfl, _, _, rfl, _, _, rfl, rfl, ?_⟩
    refine ⟨_, rfl, _, rfl, _, _, rfl, _, rfl, _, rfl, _, _, rfl, rfl, _, rfl, _, rfl, a, _, 2, _, rfl, rfl, hT, atI_nat (j := 2) rfl, _, _, rfl, rfl, .inr ⟨by have := g.p1; omega, by have := g.p2; omega⟩, _, _, rfl, rfl, ?_⟩
    refine ⟨_, rfl, _, rfl, _, rfl, _, _, rfl, rfl, _, rfl, a, _, 1, _, rfl, rfl, hT, atI_nat (j := 1) rfl, _, _, rfl, rfl, (by have := g.s1; show (0 : Int) < d.sc; omega), _, _, rfl, rfl, _, _, rfl, rfl, ?_⟩
    exact q
end
/-! ### need_few -/
abbrev s_need_few : Stmt := top 30
def sp_need_few (K : PySem.W.Frag) : Sp := fun vs H Q _ => ∃ (u : V) (l : List Ask), vs = [u] ∧ Dp K H u (dAsks l) ∧ l.length ≤ 6 ∧ Q .non H
theorem sc_need_few : FnScope ["asks"] ["asks"] (defScope s_need_few) := ⟨rfl, rfl, rfl, by decide +kernel, rfl, by decide +kernel, by decide +kernel⟩
section
variable {P : Program} {w : World} {K : PySem.W.Frag} {mg : Str → Option Value} {base : Heap}
theorem ok_need_few {f : Addr} {fd : FuncData} (F : Fun K "need_few" "need_few" s_need_few f fd) (mb_len : mg "len" = none) {t1 : Tok} (mc_MOST_OF_ALL : mg "MOST_OF_ALL" = some (.int 6 t1)) : FnOk P w K mg base CX0 1 f fd ["asks"] (sp_need_few K) := by
  refine F.ok sc_need_few (fun vs H Q E h => ?_) (fun cdv A outer s H vs Q E hr h => ?_)
  · obtain ⟨u, l, rfl, _⟩ := h
    rfl
  · obtain ⟨u, l, rfl, ha, hl, q⟩ := h
    obtain ⟨b, xs, rfl, hL, hxl, hat⟩ := dp_asks ha
    refine ⟨_, (pss_one (ps_if (pt_cmpR op_gt (pe_callB call_len_seq (by rfl) mb_len PySem.boot_len (pa_cons (pv 0) pa_nil)) (pe_glob rfl mc_MOST_OF_ALL rel_int) (nomark _)) (pss_one ps_never) pss_nil)), ?_⟩
    exact ⟨_, rfl, b, xs, rfl, .inl hL, _, _, rfl, rfl, _, rfl, ifd_f (by omega) q⟩
end
end Ag

namespace Ag
open PySem PySem.Spec PyProof.Rows L2
/-! ### the arm: its class, its object -/
open LamX NdefX
def clsB : Stmt → List Stmt
  | .ClassDef (body := b) .. => b
  | _ => []
def mth (j : Nat) : Stmt := (clsB (top 25)).getD j (.Pass ⟨0, 0, 0, 0⟩)
structure ArmC (K : PySem.W.Frag) (C : Addr) : Prop where
  glo : PySem.W.nsIn K mainGlobals "Arm" = some (some (.ref C))
  cl : Cls K C
  disk : NoAttr K C "disk"
  asks : NoAttr K C "asks"
  now : NoAttr K C "now"
  here : NoAttr K C "here"
  up : NoAttr K C "up"
  left : NoAttr K C "left"
structure Mt (K : PySem.W.Frag) (C : Addr) (x : Str) (f : Addr) (fd : FuncData) (ps : List Str) : Prop where
  m : Meth K C x f
  b : Binds K fd ps []
/-- where an arm's things stand -/
structure ArmP where
  C : Addr
  p : Addr
  dx : Addr
  a : Addr
  b : Addr
  Lf : Addr
def flds (z : ArmP) (s : ArmS) : List (Str × V) := [("disk", .ref z.a), ("asks", .ref z.b), ("now", .int s.now), ("here", .int s.here), ("up", .bl s.up), ("left", .ref z.Lf)]
structure ArmH (K : PySem.W.Frag) (z : ArmP) (d : Disk) (l : List Ask) (G H : Hp) (s : ArmS) : Prop where
  nt : ∀ b ps, G b ≠ some (.tbl ps)
  sub : Same G H
  gp : G z.p = none
  gL : G z.Lf = none
  dk : Dp K G (.ref z.a) (dDisk d)
  ak : Dp K G (.ref z.b) (dAsks l)
  ins : H z.p = some (.ins z.C z.dx (flds z s))
  lf : H z.Lf = some (.lst ((nints s.left).map V.int))
  lt : ∀ n ∈ s.left, n < l.length
theorem ArmH.keep {K : PySem.W.Frag} {z : ArmP} {d : Disk} {l : List Ask} {G H H' : Hp} {s : ArmS} (h : ArmH K z d l G H s) (e : ExtN H H') : ArmH K z d l G H' s :=
  ⟨h.nt, fun b o k => e b o (h.sub b o k) (fun ps q => h.nt b ps (q ▸ k)), h.gp, h.gL, h.dk, h.ak, e _ _ h.ins (fun ps q => by cases q), e _ _ h.lf (fun ps q => by cases q), h.lt⟩
theorem ArmH.same {K : PySem.W.Frag} {z : ArmP} {d : Disk} {l : List Ask} {G H H' : Hp} {s : ArmS} (h : ArmH K z d l G H s) (e : Same H H') : ArmH K z d l G H' s := h.keep (.of e)
theorem ArmH.disk {K : PySem.W.Frag} {z : ArmP} {d : Disk} {l : List Ask} {G H : Hp} {s : ArmS} (h : ArmH K z d l G H s) : SqT K H z.a [.int d.tr, .int d.sc, .int d.pa, .int d.he] := by
  obtain ⟨a, e, hT⟩ := dp_disk h.dk
  cases e
  exact same_sqt h.sub hT
theorem ArmH.ask {K : PySem.W.Frag} {z : ArmP} {d : Disk} {l : List Ask} {G H : Hp} {s : ArmS} (h : ArmH K z d l G H s) {n : Nat} (hn : n < l.length) : ∃ xs q, SqL K H z.b xs ∧ xs.length = l.length ∧ xs[n]? = some (.ref q) ∧ SqT K H q [.int (come l n), .int (trk l n), .int (l.getD n (0, 0, 0)).2.2] ∧ Dp K H (.ref q) (dAsk (l.getD n (0, 0, 0))) := by
  obtain ⟨b, xs, e, hL, hlen, hat⟩ := dp_asks h.ak
  cases e
  have hk : l[n]? = some (l.getD n (0, 0, 0)) := by rw [List.getD_eq_getElem?_getD, List.getElem?_eq_getElem hn]; rfl
  obtain ⟨q, hq, hT, hd⟩ := hat n _ hk
  exact ⟨xs, q, h.sub.seq hL, hlen, hq, same_sqt h.sub hT, dp_same h.sub hd⟩
theorem tabB_up {base b2 : Heap} {mg : Str → Option Value} {c P : Addr} (h : TabB base mg c P) (up : ∀ b o, base.get? b = some o → b2.get? b = some o) : TabB b2 mg c P := ⟨h.code.keeps up, h.bm.keeps up, h.gP⟩
/-- the lambda's name in a method -/
def lq (q : Str) : Str := q ++ ".<locals>." ++ "<lambda>"
theorem lamC_by {X : Cx} {T : List (Addr × Str)} {c P : Addr} {params : Arguments} {scope : Scope} {fr : List Str} {js : List Nat} (sc : Scope) (hsc : X.env.scope = sc) (tb : TabB X.base X.mg c P) (code : X.env.code = .ref c) (mem : (P, X.env.qual ++ "<lambda>") ∈ T) (one : ∀ p ∈ T, p.1 = P → p.2 = X.env.qual ++ "<lambda>")
    (dfl : defaultsOf params X.env = ([], [])) (fn : ∀ y, X.fn y = true) (h : ndefB sc scope fr = true) (jss : js.map (fun j => X.N[j]?) = fr.map some) : LamC X T c P params scope fr js :=
  ⟨tb, code, mem, one, dfl, fn, fun y hy e => by rw [hsc]; exact ndef_free h y hy e, ndef_fr h, jss⟩
/-! ### far -/
abbrev s_far : Stmt := mth 2
def sp_far (K : PySem.W.Frag) : Sp := fun vs H Q _ => ∃ (z : ArmP) (d : Disk) (l : List Ask) (G : Hp) (s : ArmS) (n : Nat), vs = [.ref z.p, .int (n : Int)] ∧ ArmH K z d l G H s ∧ ArmC K z.C ∧ n < l.length ∧ Q (.int (trk l n - s.here)) H
theorem sc_far : FnScope ["self", "number"] ["self", "number"] (defScope s_far) := ⟨rfl, rfl, rfl, by decide +kernel, rfl, by decide +kernel, by decide +kernel⟩
section
variable {P : Program} {w : World} {K : PySem.W.Frag} {mg : Str → Option Value} {base : Heap}
theorem ok_far {f : Addr} {fd : FuncData} (F : Fun K "far" "Arm.far" s_far f fd) : FnOk P w K mg base CX0 1 f fd ["self", "number"] (sp_far K) := by
  refine F.ok sc_far (fun vs H Q E h => ?_) (fun cdv A outer s H vs Q E hr h => ?_)
  · obtain ⟨z, d, l, G, s, n, rfl, _⟩ := h
    rfl
  · obtain ⟨z, d, l, G, st, n, rfl, hA, hC, hn, q⟩ := h
    have nd := sc_far.nd
    obtain ⟨xs, qa, hL, hlen, hq, hT, _⟩ := hA.ask hn
    refine ⟨_, (pss_one (ps_ret (pe_op op_sub (pe_ix (r := rIxT K) ix_tup (pe_ix (r := rIxL K) ix_list (pe_fld (pv 0) rfl) (pv 1) (fun _ _ => rfl)) pe_int (fun _ _ => rfl)) (pe_fld (pv 0) rfl)))), ?_⟩
    refine ⟨_, rfl, z.p, z.C, z.dx, _, _, rfl, hA.ins, hC.cl, hC.asks, rfl, _, rfl, z.b, xs, _, _, rfl, rfl, hL, atI_nat hq, ?_⟩
    refine ⟨qa, _, 1, _, rfl, rfl, hT, atI_nat (j := 1) rfl, ?_⟩
    refine ⟨_, rfl, z.p, z.C, z.dx, _, _, rfl, hA.ins, hC.cl, hC.here, rfl, _, _, rfl, rfl, ?_⟩
    exact q
end
end Ag

namespace Ag
open PySem PySem.Spec PyProof.Rows L2
/-! ### first_of -/
open LamX NdefX
abbrev s_first_of : Stmt := mth 3
def nin (pool : List Nat) (n : Int) : Prop := n ∈ nints pool
theorem nin_nat {pool : List Nat} {n : Int} (h : nin pool n) : ∃ m, m ∈ pool ∧ n = (m : Int) := by
  obtain ⟨m, hm, e⟩ := List.mem_map.mp h
  exact ⟨m, hm, e.symm⟩
/-- the lambdas' tables -/
structure ArmT (base : Heap) (mg : Str → Option Value) (T : List (Addr × Str)) (c P : Addr) (q : Str) : Prop where
  tb : TabB base mg c P
  mem : (P, lq q) ∈ T
  one : ∀ p ∈ T, p.1 = P → p.2 = lq q
theorem ArmT.up {base b2 : Heap} {mg : Str → Option Value} {T : List (Addr × Str)} {c P : Addr} {q : Str} (h : ArmT base mg T c P q) (up : ∀ b o, base.get? b = some o → b2.get? b = some o) : ArmT b2 mg T c P q := ⟨tabB_up h.tb up, h.mem, h.one⟩
def sp_first_of (K : PySem.W.Frag) (T : List (Addr × Str)) (z : ArmP) (d : Disk) (l : List Ask) (G : Hp) (st : ArmS) (pool : List Nat) (g : Nat → Int) (H0 : Hp) (fk : Addr) : Sp := fun vs H Q _ => ∃ W : Addr, H = H0 ∧ vs = [.ref z.p, .ref W, .ref fk] ∧ ArmH K z d l G H st ∧ ArmC K z.C ∧
  H W = some (.lst ((nints pool).map V.int)) ∧ pool ≠ [] ∧ (∀ n ∈ pool, n < l.length) ∧ Tabs T H ∧ ∀ H', ExtN H H' → Tabs T H' → Q (.int ((pick (key3 l g) pool : Nat) : Int)) H'
theorem sc_first_of : FnScope ["self", "some", "key"] ["self", "some", "key"] (defScope s_first_of) := ⟨rfl, rfl, rfl, by decide +kernel, rfl, by decide +kernel, by decide +kernel⟩
section
variable {P : Program} {w : World} {K : PySem.W.Frag} {mg : Str → Option Value} {base : Heap}
theorem ok_first_of {k : Nat} {f cf Pf fk : Addr} {fd : FuncData} {T : List (Addr × Str)} {z : ArmP} {d : Disk} {l : List Ask} {G H0 : Hp} {st : ArmS} {pool : List Nat} {g : Nat → Int} (F : FunC K "first_of" "Arm.first_of" s_first_of f fd cf) (AT : ArmT base mg T cf Pf "Arm.first_of")
    (KF : KeyFn P w K mg base k fk (nin pool) (ExtN H0) (ansI fun n => g n.toNat)) (mb_min : mg "min" = none) : FnOk P w K mg base CX0 (k + 3) f fd ["self", "some", "key"] (sp_first_of K T z d l G st pool g H0 fk) := by
  refine F.ok sc_first_of (fun vs H Q E h => ?_) (fun A outer s H vs Q E hr h => ?_)
  · obtain ⟨W, _, rfl, _⟩ := h
    rfl
  · obtain ⟨W, rfl, rfl, hA, hC, hW, hne, hlt, hT, q⟩ := h
    have nd := sc_first_of.nd
    refine ⟨_, pss_one (ps_ret (pe_minL (T := T) (fr := ["key", "self"]) (js := [2, 0]) (k := k + 1) (lamC_by (defScope s_first_of) rfl AT.tb rfl AT.mem AT.one rfl (fun _ => rfl) (by decide +kernel) rfl) rfl hr (Nat.le_refl _) rfl mb_min (pv 1))), ?_⟩
    have hne' : nints pool ≠ [] := fun e => hne (List.map_eq_nil_iff.mp e)
    refine ⟨_, rfl, hT, W, nints pool, rfl, hW, hne', fun c' H2 eN T2 hc' => ⟨fun n => key3 l g n.toNat, fun _ => rfl, fun b2 fl up B => ?_, fun m H' E' hm hle => ?_⟩⟩
    · refine keyFn_lam (k := k) (N := ["number", "key", "self"]) (fr := ["key", "self"]) (x := "number") (nscope_by (by show nscB _ ["number"] _ (Scope.mk .function [("number", .local), ("key", .free), ("self", .free)] false false []) = true; decide +kernel)) B (fun _ _ _ => rfl) (fun H3 E3 => E3.same _ _ hc') (fun b3 A3 outer3 s3 H3 n up3 hr3 E3 hn => ?_)
      obtain ⟨m, hm, rfl⟩ := nin_nat hn
      have hA3 := hA.keep (eN.trans (.of E3.same))
      obtain ⟨xs, qa, hL, hlen, hq, hTq, _⟩ := hA3.ask (hlt m hm)
      refine ⟨_, pe_tup (pa_cons (pe_key (i := 1) KF (fun b o h => up3 b o (up b o h)) hr3 (Nat.le_refl _) rfl (.inr (.inr rfl)) (pa_cons (pv 0) pa_nil)) (pa_cons (pe_ix (r := rIxT K) ix_tup (pe_ix (r := rIxL K) ix_list (pe_fld (pv 2) rfl) (pv 0) (fun _ _ => rfl)) pe_int (fun _ _ => rfl)) (pa_cons (pv 0) pa_nil))), ?_⟩
      refine ⟨rfl, _, rfl, _, rfl, hn, eN.trans (.of E3.same), fun v H4 hv => ?_⟩
      obtain ⟨rfl, rfl⟩ := hv
      refine ⟨_, rfl, z.p, z.C, z.dx, _, _, rfl, hA3.ins, hC.cl, hC.asks, rfl, _, rfl, z.b, xs, _, _, rfl, rfl, hL, atI_nat hq, ?_⟩
      refine ⟨qa, _, 0, _, rfl, rfl, hTq, atI_nat (j := 0) rfl, ?_⟩
      exact ⟨_, rfl, (by show 3 ≤ sizeLine; decide), fun p hp => ⟨p, rfl, hp, rfl⟩⟩
    · obtain ⟨n, hn, rfl⟩ := nin_nat hm
      have e : n = pick (key3 l g) pool := pick_is (key3_len l g) (key3_inj l g) hn fun i hi => hle (i : Int) (List.mem_map.mpr ⟨i, hi, rfl⟩)
      rw [e]
      exact q H' (eN.trans (.of E'.same)) (T2.ext E'.same)
end
end Ag

namespace Ag
open PySem PySem.Spec PyProof.Rows L2
/-! ### swept, looped -/
open LamX NdefX
/-- all but the arm stays -/
def KeepP (z : ArmP) (H H' : Hp) : Prop := ∀ b o, b ≠ z.p → H b = some o → (∀ ps, o ≠ .tbl ps) → H' b = some o
theorem KeepP.of {z : ArmP} {H H' : Hp} (e : ExtN H H') : KeepP z H H' := fun b o _ h n => e b o h n
theorem KeepP.trans {z : ArmP} {H H1 H2 : Hp} (a : KeepP z H H1) (b : KeepP z H1 H2) : KeepP z H H2 := fun c o n h t => b c o n (a c o n h t) t
abbrev s_swept : Stmt := mth 4
def sp_swept (K : PySem.W.Frag) (T : List (Addr × Str)) : Sp := fun vs H Q _ => ∃ (z : ArmP) (d : Disk) (l : List Ask) (G : Hp) (st : ArmS) (pool : List Nat) (W : Addr), vs = [.ref z.p, .ref W] ∧ ArmH K z d l G H st ∧ ArmC K z.C ∧ l.length ≤ 40 ∧ pool.length ≤ 40 ∧
  H W = some (.lst ((nints pool).map V.int)) ∧ pool ≠ [] ∧ (∀ n ∈ pool, n < l.length) ∧ Tabs T H ∧ ∀ H', KeepP z H H' → Tabs T H' → ArmH K z d l G H' { st with up := sweptU l st pool } → Q (.int ((sweptN l st pool : Nat) : Int)) H'
theorem sc_swept : FnScope ["self", "some", "ahead", "number"] ["self", "some"] (defScope s_swept) := ⟨rfl, rfl, rfl, by decide +kernel, rfl, by decide +kernel, by decide +kernel⟩
theorem ArmH.turn {K : PySem.W.Frag} {z : ArmP} {d : Disk} {l : List Ask} {G H : Hp} {s s' : ArmS} (h : ArmH K z d l G H s) (e : s'.left = s.left) : ArmH K z d l G (upd H z.p (.ins z.C z.dx (flds z s'))) s' :=
  ⟨h.nt, fun b o k => by rw [upd_ne (ne_of_none k h.gp)]; exact h.sub b o k, h.gp, h.gL, h.dk, h.ak, upd_same, by rw [upd_ne (ne_of h.lf h.ins (by intro q; cases q)), e]; exact h.lf, by rw [e]; exact h.lt⟩
theorem put_up (z : ArmP) (s : ArmS) (u : Bool) : putF "up" (.bl u) (flds z s) = flds z { s with up := u } := by kernel_rfl
theorem put_now (z : ArmP) (s : ArmS) (u : Int) : putF "now" (.int u) (flds z s) = flds z { s with now := u } := by kernel_rfl
theorem put_here (z : ArmP) (s : ArmS) (u : Int) : putF "here" (.int u) (flds z s) = flds z { s with here := u } := by kernel_rfl
/-- the reading of self.first_of(some, lambda ..) -/
theorem first_read {X : Cx} {T : List (Addr × Str)} {params : Arguments} {body : Expr} {scope : Scope} {fr : List Str} {js : List Nat} {f1 c1 P1 Wp : Addr} {fd1 : FuncData} {iw : Nat} {σ : L2.St} {H : Hp} {Q : VK} {z : ArmP} {d : Disk} {l : List Ask} {G : Hp} {st : ArmS} {pool : List Nat} {g : Nat → Int}
    (F1 : FunC X.K "first_of" "Arm.first_of" s_first_of f1 fd1 c1) (AT1 : ArmT X.base X.mg T c1 P1 "Arm.first_of") (mb_min : X.mg "min" = none) (h0 : σ[0]? = some (some (.ref z.p))) (hw : σ[iw]? = some (some (.ref Wp))) (hA : ArmH X.K z d l G H st) (AC : ArmC X.K z.C) (hT : Tabs T H)
    (hW : H Wp = some (.lst ((nints pool).map V.int))) (hne : pool ≠ []) (hlt : ∀ n ∈ pool, n < l.length)
    (KF : ∀ (b2 : Heap) (fl c' : Addr) (H3 : Hp), (∀ b o, X.base.get? b = some o → b2.get? b = some o) → LamB b2 fl (lamF X params scope c') params body fr (js.map (slotAt σ)) → ExtN H H3 → H3 c' = some (CodeO c' (X.env.qual ++ "<lambda>")) →
      KeyFn X.prog X.w X.K X.mg b2 2 fl (nin pool) (ExtN H3) (ansI fun n => g n.toNat))
    (q : ∀ H', ExtN H H' → Tabs T H' → Q (.int ((pick (key3 l g) pool : Nat) : Int)) H') : tMethL X T params body scope fr js 5 z.C f1 fd1 ["self", "some", "key"] "first_of" (tVar 0) (tVar iw) σ H Q :=
  ⟨_, h0, z.p, z.dx, _, rfl, hA.ins, rfl, _, hw, hT, fun c' H3 eN T3 hc' => ⟨fun fl => sp_first_of X.K T z d l G st pool g H3 fl, fun b2 fl up _ _ B => ok_first_of F1 (AT1.up up) (KF b2 fl c' H3 up B eN hc') mb_min,
    fun fl => ⟨Wp, rfl, rfl, hA.keep eN, AC, eN _ _ hW (fun ps z => by cases z), hne, hlt, T3, fun H' e t => q H' (eN.trans e) t⟩⟩⟩
section
variable {P : Program} {w : World} {K : PySem.W.Frag} {mg : Str → Option Value} {base : Heap}
theorem ok_swept {f cs Ps f1 c1 P1 f2 : Addr} {fd fd1 fd2 : FuncData} {T : List (Addr × Str)} {C : Addr} (F : FunC K "swept" "Arm.swept" s_swept f fd cs) (AT : ArmT base mg T cs Ps "Arm.swept")
    (F1 : FunC K "first_of" "Arm.first_of" s_first_of f1 fd1 c1) (AT1 : ArmT base mg T c1 P1 "Arm.first_of") (M_first_of : ∀ C, ArmC K C → Mt K C "first_of" f1 fd1 ["self", "some", "key"])
    (G_far0 : ∀ base : Heap, FnOk P w K mg base CX0 1 f2 fd2 ["self", "number"] (sp_far K)) (M_far0 : ∀ C, ArmC K C → Mt K C "far" f2 fd2 ["self", "number"])
    (mb_min : mg "min" = none) (mb_abs : mg "abs" = none) (mb_int : mg "int" = none) : FnOk P w K mg base CX0 6 f fd ["self", "some"] (sp_swept K T) := by
  refine F.ok sc_swept (fun vs H Q E h => ?_) (fun A outer s H vs Q E hr h => ?_)
  · obtain ⟨z, d, l, G, st, pool, W, rfl, _⟩ := h
    rfl
  · obtain ⟨z, d, l, G, st, pool, W, rfl, hA, AC, h40, hp40, hW, hne, hlt, hT, q⟩ := h
    have nd := sc_swept.nd
    have M_far := M_far0 _ AC
    have M_first_of := M_first_of _ AC
    have G_far := G_far0 base
    have hr_far : Room 1 _ := hr.mono (by decide)
    refine ⟨_, (pss_cons (ps_setLc (i := 2) (own := [("number", 3)]) (g := (gName 3)) rfl nd rfl rfl (sw_true rfl rfl rfl (by decide +kernel)) (pi_list (pv 1)) (blkOk_by (own := [("number", 3)]) (N := ["self", "some", "ahead", "number"]) (sc := defScope s_swept) (by decide +kernel)) (fun _ _ _ _ _ => (pg_name (i := 3) nd rfl (.inl rfl))) (fun _ _ _ _ _ => (pts_one (pt_cmpR op_ge (pe_op op_mul (pe_meth (pv 0) AC.cl M_far.m G_far hr_far M_far.b .nil pass0 (pa_cons (pv 3) pa_nil)) (pe_op op_sub (pe_op op_mul pe_int (pe_callTy call_int1 (by rfl) mb_int (by decide +kernel) (pa_cons (pe_fldK (K := K) (pv 0)) pa_nil))) pe_int)) pe_int (nomark _)))) (fun _ _ _ _ _ => (pv 3)))
      (pss_cons (ps_if (pt_cmpR (op_eqD hr.units) (pv 2) (pe_lst pa_nil) (nomark _)) (pss_cons (ps_fld (pv 0) (pe_not (pe_fld (pv 0) rfl)) rfl)
      (pss_one (ps_set (i := 2) nd rfl (.inl rfl) (pv 1)))) pss_nil)
      (pss_one (ps_ret (pe_methL (T := T) (fr := ["self"]) (js := [0]) (lamC_by (defScope s_swept) rfl AT.tb rfl AT.mem AT.one rfl (fun _ => rfl) (by decide +kernel) rfl) (pv 0) (pv 2) AC.cl M_first_of.m hr M_first_of.b))))), ?_⟩
    have hlenW : ((nints pool).map V.int).length = pool.length := by rw [List.length_map, nints_len]
    refine ⟨_, rfl, W, rfl, ⟨_, SqL.of hW⟩, fun D hD => ?_⟩
    have s1 := same_new (o := .lst []) hD
    refine lc_list (K := K) (a := W) (xs := (nints pool).map V.int) (fun i H' => Same H H' ∧ H' D = some (.lst ((nints ((pool.take i).filter fun n => decide (0 ≤ (trk l n - st.here) * (2 * b1 st.up - 1)))).map V.int))) ⟨s1, upd_same⟩ (fun i H' _ ⟨s, _⟩ => SqL.of (s _ _ hW)) ?_ ?_
    · rintro i x H' hi ⟨s2, eD⟩
      obtain ⟨n, hn, rfl⟩ := nints_at hi
      have hA2 := hA.same s2
      refine ⟨rfl, _, rfl, z.p, z.dx, _, rfl, hA2.ins, rfl, _, rfl, z, d, l, G, st, n, rfl, hA2, AC, hlt n (List.mem_of_getElem? hn), ?_⟩
      refine ⟨_, rfl, z.p, z.C, z.dx, _, _, rfl, hA2.ins, AC.cl, AC.up, rfl, .inr ⟨_, rfl, ?_⟩⟩
      refine ⟨_, _, rfl, rfl, .inl ⟨by decide, by decide⟩, _, _, rfl, rfl, _, _, rfl, rfl, .inr ⟨?_, ?_⟩, _, _, rfl, rfl, _, rfl, ?_⟩
      · split <;> decide
      · split <;> decide
      · have hb : (if st.up = true then (1 : Int) else 0) = b1 st.up := rfl
        rw [hb]
        refine if2d (fun hc => ⟨_, rfl, _, eD, small1000 (Nat.le_trans nints_filter_len (by omega)), same_upd s2 hD, ?_⟩) (fun hc => ⟨s2, ?_⟩)
        · rw [upd_same, filter_step hn, if_pos (decide_eq_true hc)]
          unfold nints
          rw [List.map_append, List.map_append]
          rfl
        · rw [eD, filter_step hn, if_neg (by rw [decide_eq_false hc]; exact Bool.false_ne_true), List.append_nil]
    · rintro H' ⟨s2, eD⟩
      rw [hlenW, List.take_of_length_le (Nat.le_refl _)] at eD
      have eD : H' D = some (.lst ((nints (aheadU l st pool)).map V.int)) := eD
      refine ⟨_, rfl, Nat.zero_le _, fun e he => ?_⟩
      have s3 := same_new (o := .lst []) he
      have s23 := s2.trans s3
      refine ⟨.list ((nints (aheadU l st pool)).map PyData.int), .list [], dp_ints_of (SqL.of (s3 _ _ eD)), .lst (SqL.of upd_same) .nil, shaped_ints _, rfl, _, rfl, ?_⟩
      rw [eqv_nil]
      refine if2d (fun hz => ?_) (fun hz => ?_)
      · have hz' : aheadU l st pool = [] := List.map_eq_nil_iff.mp hz
        have hA3 := hA.same s23
        refine ⟨_, rfl, z.p, z.C, z.dx, _, _, rfl, hA3.ins, AC.cl, AC.up, rfl, _, rfl, _, rfl, z.p, z.C, z.dx, _, rfl, hA3.ins, AC.cl, AC.up, (by show (6 : Nat) < 1000; decide), ?_⟩
        have hA5 := hA3.turn (s' := { st with up := !st.up }) rfl
        rw [put_up]
        have nWp : W ≠ z.p := ne_of (s23 _ _ hW) hA3.ins (by intro q; cases q)
        have hW5 : upd (upd H' e (.lst [])) z.p (.ins z.C z.dx (flds z { st with up := !st.up })) W = some (.lst ((nints pool).map V.int)) := by rw [upd_ne nWp]; exact s23 _ _ hW
        have hT5 : Tabs T (upd (upd H' e (.lst [])) z.p (.ins z.C z.dx (flds z { st with up := !st.up }))) := fun t ht => by
          obtain ⟨ps, t1, t2, t3⟩ := (hT.ext s23) t ht
          have up : ∀ b o, (upd H' e (.lst [])) b = some o → (∀ C dx fs, o ≠ .ins C dx fs) → upd (upd H' e (.lst [])) z.p (.ins z.C z.dx (flds z { st with up := !st.up })) b = some o := fun b o h n => by
            rw [upd_ne fun q => n _ _ _ (Option.some.inj (h.symm.trans (by rw [q]; exact hA3.ins)))]
            exact h
          exact ⟨ps, up _ _ t1 (by intro _ _ _ q; cases q), t2, fun pos cv hc => let ⟨c0, e1, e2⟩ := t3 pos cv hc; ⟨c0, e1, up _ _ e2 (by intro _ _ _ q; cases q)⟩⟩
        have kp5 : KeepP z H (upd (upd H' e (.lst [])) z.p (.ins z.C z.dx (flds z { st with up := !st.up }))) := fun b o n h _ => by
          rw [upd_ne n]
          exact s23 _ _ h
        revert hA5 hW5 hT5 kp5
        generalize upd (upd H' e (.lst [])) z.p (.ins z.C z.dx (flds z { st with up := !st.up })) = H5
        intro hA5 hW5 hT5 kp5
        refine ⟨_, rfl, ?_⟩
        refine first_read (g := farK l st) F1 AT1 mb_min rfl rfl hA5 AC hT5 hW5 hne hlt (fun b2 fl c' H3 up B eN hc' => ?_) (fun H' e t => ?_)
        · refine keyFn_lam (k := 1) (x := "number") (N := ["number", "self"]) (fr := ["self"]) (nscope_by (by kernel_rfl)) B (fun _ _ _ => rfl) (fun H E' => E' _ _ hc' codeO_ne) (fun b3 A3 outer3 s3 H4 n up3 hr3 E4 hn => ?_)
          obtain ⟨m, hm, rfl⟩ := nin_nat hn
          have hA4 := hA5.keep (eN.trans E4)
          have hr_far : Room 1 _ := hr3
          have G_far := G_far0 b3
          refine ⟨_, pe_callB call_abs (by rfl) mb_abs (by decide +kernel) (pa_cons (pe_meth (pv 1) AC.cl M_far.m G_far hr_far M_far.b .nil pass0 (pa_cons (pv 0) pa_nil)) pa_nil), ?_⟩
          exact ⟨_, rfl, z.p, z.dx, _, rfl, hA4.ins, rfl, _, rfl, z, d, l, G, _, m, rfl, hA4, AC, hlt m hm, _, rfl, rfl, rfl⟩
        · have e1 : sweptN l st pool = pick (key3 l (farK l st)) pool := by unfold sweptN; rw [if_pos hz']
          have e2 : sweptU l st pool = !st.up := by unfold sweptU; rw [if_pos hz']
          rw [← e1]
          refine q H' (kp5.trans (.of e)) t ?_
          rw [e2]
          exact hA5.keep e
      · have hz' : aheadU l st pool ≠ [] := fun e => hz (by rw [e]; rfl)
        have hA3 := hA.same s23
        have hla : ∀ n ∈ aheadU l st pool, n < l.length := fun n hn => hlt n (List.mem_filter.mp hn).1
        refine first_read (g := farK l st) F1 AT1 mb_min rfl rfl hA3 AC (hT.ext s23) (s3 _ _ eD) hz' hla (fun b2 fl c' H3 up B eN hc' => ?_) (fun H' e t => ?_)
        · refine keyFn_lam (k := 1) (x := "number") (N := ["number", "self"]) (fr := ["self"]) (nscope_by (by kernel_rfl)) B (fun _ _ _ => rfl) (fun H E' => E' _ _ hc' codeO_ne) (fun b3 A3 outer3 s3 H4 n up3 hr3 E4 hn => ?_)
          obtain ⟨m, hm, rfl⟩ := nin_nat hn
          have hA4 := hA3.keep (eN.trans E4)
          have hr_far : Room 1 _ := hr3
          have G_far := G_far0 b3
          refine ⟨_, pe_callB call_abs (by rfl) mb_abs (by decide +kernel) (pa_cons (pe_meth (pv 1) AC.cl M_far.m G_far hr_far M_far.b .nil pass0 (pa_cons (pv 0) pa_nil)) pa_nil), ?_⟩
          exact ⟨_, rfl, z.p, z.dx, _, rfl, hA4.ins, rfl, _, rfl, z, d, l, G, st, m, rfl, hA4, AC, hla m hm, _, rfl, rfl, rfl⟩
        · have e1 : sweptN l st pool = pick (key3 l (farK l st)) (aheadU l st pool) := by unfold sweptN; rw [if_neg hz']
          have e2 : sweptU l st pool = st.up := by unfold sweptU; rw [if_neg hz']
          rw [← e1]
          refine q H' (.of ((ExtN.of s23).trans e)) t ?_
          rw [e2]
          exact hA3.keep e
end
end Ag

namespace Ag
open PySem PySem.Spec PyProof.Rows L2
/-! ### looped, chosen -/
open LamX NdefX
/-- the reading of self.first_of(e, lambda ..), behind e -/
theorem first_inner {X : Cx} {T : List (Addr × Str)} {params : Arguments} {body : Expr} {scope : Scope} {fr : List Str} {js : List Nat} {f1 c1 P1 Wp : Addr} {fd1 : FuncData} {σ : L2.St} {H : Hp} {Q : VK} {z : ArmP} {d : Disk} {l : List Ask} {G : Hp} {st : ArmS} {pool : List Nat} {g : Nat → Int}
    (F1 : FunC X.K "first_of" "Arm.first_of" s_first_of f1 fd1 c1) (AT1 : ArmT X.base X.mg T c1 P1 "Arm.first_of") (mb_min : X.mg "min" = none) (hA : ArmH X.K z d l G H st) (AC : ArmC X.K z.C) (hT : Tabs T H)
    (hW : H Wp = some (.lst ((nints pool).map V.int))) (hne : pool ≠ []) (hlt : ∀ n ∈ pool, n < l.length)
    (KF : ∀ (b2 : Heap) (fl c' : Addr) (H3 : Hp), (∀ b o, X.base.get? b = some o → b2.get? b = some o) → LamB b2 fl (lamF X params scope c') params body fr (js.map (slotAt σ)) → ExtN H H3 → H3 c' = some (CodeO c' (X.env.qual ++ "<lambda>")) →
      KeyFn X.prog X.w X.K X.mg b2 2 fl (nin pool) (ExtN H3) (ansI fun n => g n.toNat))
    (q : ∀ H', ExtN H H' → Tabs T H' → Q (.int ((pick (key3 l g) pool : Nat) : Int)) H') : Tabs T H ∧ ∀ (c' : Addr) (H3 : Hp), ExtN H H3 → Tabs T H3 → H3 c' = some (CodeO c' (X.env.qual ++ "<lambda>")) → ∃ sp : Addr → Sp,
    (∀ (b2 : Heap) (f : Addr), (∀ b o, X.base.get? b = some o → b2.get? b = some o) → X.K.In b2 → b2.Ns mainGlobals X.mg → LamB b2 f (lamF X params scope c') params body fr (js.map (slotAt σ)) → FnOk X.prog X.w X.K X.mg b2 CX0 5 f1 fd1 ["self", "some", "key"] (sp f)) ∧
    ∀ f, sp f [.ref z.p, .ref Wp, .ref f] H3 Q E0 :=
  ⟨hT, fun c' H3 eN T3 hc' => ⟨fun fl => sp_first_of X.K T z d l G st pool g H3 fl, fun b2 fl up _ _ B => ok_first_of F1 (AT1.up up) (KF b2 fl c' H3 up B eN hc') mb_min,
    fun fl => ⟨Wp, rfl, rfl, hA.keep eN, AC, eN _ _ hW (fun ps z => by cases z), hne, hlt, T3, fun H' e t => q H' (eN.trans e) t⟩⟩⟩
abbrev s_looped : Stmt := mth 5
def sp_looped (K : PySem.W.Frag) (T : List (Addr × Str)) : Sp := fun vs H Q _ => ∃ (z : ArmP) (d : Disk) (l : List Ask) (G : Hp) (st : ArmS) (pool : List Nat) (W : Addr), vs = [.ref z.p, .ref W] ∧ ArmH K z d l G H st ∧ ArmC K z.C ∧ l.length ≤ 40 ∧ pool.length ≤ 40 ∧
  H W = some (.lst ((nints pool).map V.int)) ∧ pool ≠ [] ∧ (∀ n ∈ pool, n < l.length) ∧ Tabs T H ∧ ∀ H', ExtN H H' → Tabs T H' → Q (.int ((loopedN l st pool : Nat) : Int)) H'
theorem sc_looped : FnScope ["self", "some", "ahead", "number"] ["self", "some"] (defScope s_looped) := ⟨rfl, rfl, rfl, by decide +kernel, rfl, by decide +kernel, by decide +kernel⟩
section
variable {P : Program} {w : World} {K : PySem.W.Frag} {mg : Str → Option Value} {base : Heap}
theorem ok_looped {f cs Ps f1 c1 P1 f2 : Addr} {fd fd1 fd2 : FuncData} {T : List (Addr × Str)} (F : FunC K "looped" "Arm.looped" s_looped f fd cs) (AT : ArmT base mg T cs Ps "Arm.looped")
    (F1 : FunC K "first_of" "Arm.first_of" s_first_of f1 fd1 c1) (AT1 : ArmT base mg T c1 P1 "Arm.first_of") (M_first_of : ∀ C, ArmC K C → Mt K C "first_of" f1 fd1 ["self", "some", "key"])
    (G_far0 : ∀ base : Heap, FnOk P w K mg base CX0 1 f2 fd2 ["self", "number"] (sp_far K)) (M_far0 : ∀ C, ArmC K C → Mt K C "far" f2 fd2 ["self", "number"])
    (mb_min : mg "min" = none) : FnOk P w K mg base CX0 6 f fd ["self", "some"] (sp_looped K T) := by
  refine F.ok sc_looped (fun vs H Q E h => ?_) (fun A outer s H vs Q E hr h => ?_)
  · obtain ⟨z, d, l, G, st, pool, W, rfl, _⟩ := h
    rfl
  · obtain ⟨z, d, l, G, st, pool, W, rfl, hA, AC, h40, hp40, hW, hne, hlt, hT, q⟩ := h
    have nd := sc_looped.nd
    have M_far := M_far0 _ AC
    have M_first_of := M_first_of _ AC
    have G_far := G_far0 base
    have hr_far : Room 1 _ := hr.mono (by decide)
    refine ⟨_, (pss_cons (ps_setLc (i := 2) (own := [("number", 3)]) (g := (gName 3)) rfl nd rfl rfl (sw_true rfl rfl rfl (by decide +kernel)) (pi_list (pv 1)) (blkOk_by (own := [("number", 3)]) (N := ["self", "some", "ahead", "number"]) (sc := defScope s_looped) (by decide +kernel)) (fun _ _ _ _ _ => (pg_name (i := 3) nd rfl (.inl rfl))) (fun _ _ _ _ _ => (pts_one (pt_cmpR op_ge (pe_meth (pv 0) AC.cl M_far.m G_far hr_far M_far.b .nil pass0 (pa_cons (pv 3) pa_nil)) pe_int (nomark _)))) (fun _ _ _ _ _ => (pv 3)))
      (pss_one (ps_ret (pe_methL (T := T) (fr := ["self"]) (js := [0]) (lamC_by (defScope s_looped) rfl AT.tb rfl AT.mem AT.one rfl (fun _ => rfl) (by decide +kernel) rfl) (pv 0) (pe_ifExp (pt_cmpR (op_neD hr.units) (pv 2) (pe_lst pa_nil) (nomark _)) (pv 2) (pv 1)) AC.cl M_first_of.m hr M_first_of.b)))), ?_⟩
    have hlenW : ((nints pool).map V.int).length = pool.length := by rw [List.length_map, nints_len]
    refine ⟨_, rfl, W, rfl, ⟨_, SqL.of hW⟩, fun D hD => ?_⟩
    have s1 := same_new (o := .lst []) hD
    refine lc_list (K := K) (a := W) (xs := (nints pool).map V.int) (fun i H' => Same H H' ∧ H' D = some (.lst ((nints ((pool.take i).filter fun n => decide (0 ≤ trk l n - st.here))).map V.int))) ⟨s1, upd_same⟩ (fun i H' _ ⟨s, _⟩ => SqL.of (s _ _ hW)) ?_ ?_
    · rintro i x H' hi ⟨s2, eD⟩
      obtain ⟨n, hn, rfl⟩ := nints_at hi
      have hA2 := hA.same s2
      refine ⟨rfl, _, rfl, z.p, z.dx, _, rfl, hA2.ins, rfl, _, rfl, z, d, l, G, st, n, rfl, hA2, AC, hlt n (List.mem_of_getElem? hn), ?_⟩
      refine ⟨_, _, rfl, rfl, _, rfl, ?_⟩
      refine if2d (fun hc => ⟨_, rfl, _, eD, small1000 (Nat.le_trans nints_filter_len (by omega)), same_upd s2 hD, ?_⟩) (fun hc => ⟨s2, ?_⟩)
      · rw [upd_same, filter_step hn, if_pos (decide_eq_true hc)]
        unfold nints
        rw [List.map_append, List.map_append]
        rfl
      · rw [eD, filter_step hn, if_neg (by rw [decide_eq_false hc]; exact Bool.false_ne_true), List.append_nil]
    · rintro H' ⟨s2, eD⟩
      rw [hlenW, List.take_of_length_le (Nat.le_refl _)] at eD
      have eD : H' D = some (.lst ((nints (aheadL l st pool)).map V.int)) := eD
      have hA2 := hA.same s2
      refine ⟨_, rfl, z.p, z.dx, _, rfl, hA2.ins, rfl, ?_⟩
      refine ⟨_, rfl, Nat.zero_le _, fun e he => ?_⟩
      have s3 := same_new (o := .lst []) he
      have s23 := s2.trans s3
      have hA3 := hA.same s23
      refine ⟨.list ((nints (aheadL l st pool)).map PyData.int), .list [], dp_ints_of (SqL.of (s3 _ _ eD)), .lst (SqL.of upd_same) .nil, shaped_ints _, rfl, _, rfl, ?_⟩
      rw [eqv_nil]
      by_cases hz : aheadL l st pool = []
      · have e1 : loopedN l st pool = pick (key3 l (trk l)) pool := by unfold loopedN; rw [if_pos hz]
        rw [hz]
        refine iteF ⟨_, rfl, ?_⟩
        refine first_inner (g := trk l) F1 AT1 mb_min hA3 AC (hT.ext s23) (s23 _ _ hW) hne hlt (fun b2 fl c' H3 up B eN hc' => ?_) (fun H' e t => by rw [← e1]; exact q H' ((ExtN.of s23).trans e) t)
        refine keyFn_lam (k := 1) (x := "number") (N := ["number", "self"]) (fr := ["self"]) (nscope_by (by kernel_rfl)) B (fun _ _ _ => rfl) (fun H E' => E' _ _ hc' codeO_ne) (fun b3 A3 outer3 s3 H4 n up3 hr3 E4 hn => ?_)
        obtain ⟨m, hm, rfl⟩ := nin_nat hn
        have hA4 := hA3.keep (eN.trans E4)
        obtain ⟨xs, qa, hL, hlen, hq, hTq, _⟩ := hA4.ask (hlt m hm)
        refine ⟨_, pe_ix (r := rIxT K) ix_tup (pe_ix (r := rIxL K) ix_list (pe_fld (pv 1) rfl) (pv 0) (fun _ _ => rfl)) pe_int (fun _ _ => rfl), ?_⟩
        refine ⟨_, rfl, z.p, z.C, z.dx, _, _, rfl, hA4.ins, AC.cl, AC.asks, rfl, _, rfl, z.b, xs, _, _, rfl, rfl, hL, atI_nat hq, ?_⟩
        exact ⟨qa, _, 1, _, rfl, rfl, hTq, atI_nat (j := 1) rfl, rfl, rfl⟩
      · have e1 : loopedN l st pool = pick (key3 l (trk l)) (aheadL l st pool) := by unfold loopedN; rw [if_neg hz]
        have hz' : nints (aheadL l st pool) ≠ [] := fun q => hz (List.map_eq_nil_iff.mp q)
        rw [decide_eq_false hz']
        have hla : ∀ n ∈ aheadL l st pool, n < l.length := fun n hn => hlt n (List.mem_filter.mp hn).1
        refine iteT ⟨_, rfl, ?_⟩
        refine first_inner (g := trk l) F1 AT1 mb_min hA3 AC (hT.ext s23) (s3 _ _ eD) hz hla (fun b2 fl c' H3 up B eN hc' => ?_) (fun H' e t => by rw [← e1]; exact q H' ((ExtN.of s23).trans e) t)
        refine keyFn_lam (k := 1) (x := "number") (N := ["number", "self"]) (fr := ["self"]) (nscope_by (by kernel_rfl)) B (fun _ _ _ => rfl) (fun H E' => E' _ _ hc' codeO_ne) (fun b3 A3 outer3 s3 H4 n up3 hr3 E4 hn => ?_)
        obtain ⟨m, hm, rfl⟩ := nin_nat hn
        have hA4 := hA3.keep (eN.trans E4)
        obtain ⟨xs, qa, hL, hlen, hq, hTq, _⟩ := hA4.ask (hla m hm)
        refine ⟨_, pe_ix (r := rIxT K) ix_tup (pe_ix (r := rIxL K) ix_list (pe_fld (pv 1) rfl) (pv 0) (fun _ _ => rfl)) pe_int (fun _ _ => rfl), ?_⟩
        refine ⟨_, rfl, z.p, z.C, z.dx, _, _, rfl, hA4.ins, AC.cl, AC.asks, rfl, _, rfl, z.b, xs, _, _, rfl, rfl, hL, atI_nat hq, ?_⟩
        exact ⟨qa, _, 1, _, rfl, rfl, hTq, atI_nat (j := 1) rfl, rfl, rfl⟩
end
/-! ### chosen -/
abbrev s_chosen : Stmt := mth 6
def sp_chosen (K : PySem.W.Frag) (T : List (Addr × Str)) : Sp := fun vs H Q _ => ∃ (z : ArmP) (d : Disk) (l : List Ask) (G : Hp) (st : ArmS) (pool : List Nat) (W : Addr) (r : Rule), vs = [.ref z.p, .str (ruleS r), .ref W] ∧ ArmH K z d l G H st ∧ ArmC K z.C ∧ GoodDisk d ∧ l.length ≤ 40 ∧ pool.length ≤ 40 ∧
  H W = some (.lst ((nints pool).map V.int)) ∧ pool ≠ [] ∧ (∀ n ∈ pool, n < l.length) ∧ Tabs T H ∧ ∀ H', KeepP z H H' → Tabs T H' → ArmH K z d l G H' { st with up := choseU l st pool r } → Q (.int ((choseN d l st pool r : Nat) : Int)) H'
theorem sc_chosen : FnScope ["self", "rule", "some"] ["self", "rule", "some"] (defScope s_chosen) := ⟨rfl, rfl, rfl, by decide +kernel, rfl, by decide +kernel, by decide +kernel⟩
theorem str_ne {a b : Str} (h : a ≠ b) : ¬ V.str a = V.str b := fun e => h (V.str.inj e)
section
variable {P : Program} {w : World} {K : PySem.W.Frag} {mg : Str → Option Value} {base : Heap}
theorem ok_chosen {f cs Ps f1 c1 P1 f2 f3 f4 f5 : Addr} {fd fd1 fd2 fd3 fd4 fd5 : FuncData} {T : List (Addr × Str)} (F : FunC K "chosen" "Arm.chosen" s_chosen f fd cs) (AT : ArmT base mg T cs Ps "Arm.chosen")
    (F1 : FunC K "first_of" "Arm.first_of" s_first_of f1 fd1 c1) (AT1 : ArmT base mg T c1 P1 "Arm.first_of") (M_first_of : ∀ C, ArmC K C → Mt K C "first_of" f1 fd1 ["self", "some", "key"])
    (G_far0 : ∀ base : Heap, FnOk P w K mg base CX0 1 f2 fd2 ["self", "number"] (sp_far K)) (M_far0 : ∀ C, ArmC K C → Mt K C "far" f2 fd2 ["self", "number"])
    (G_swept : FnOk P w K mg base CX0 6 f3 fd3 ["self", "some"] (sp_swept K T)) (M_swept0 : ∀ C, ArmC K C → Mt K C "swept" f3 fd3 ["self", "some"])
    (G_looped : FnOk P w K mg base CX0 6 f4 fd4 ["self", "some"] (sp_looped K T)) (M_looped0 : ∀ C, ArmC K C → Mt K C "looped" f4 fd4 ["self", "some"])
    (G_served0 : ∀ base : Heap, FnOk P w K mg base CX0 1 f5 fd5 ["disk", "now", "here", "ask"] (sp_served K)) (C_served : Cal K mg "served" f5 fd5 ["disk", "now", "here", "ask"])
    (mb_min : mg "min" = none) (mb_abs : mg "abs" = none) : FnOk P w K mg base CX0 7 f fd ["self", "rule", "some"] (sp_chosen K T) := by
  refine F.ok sc_chosen (fun vs H Q E h => ?_) (fun A outer s H vs Q E hr h => ?_)
  · obtain ⟨z, d, l, G, st, pool, W, r, rfl, _⟩ := h
    rfl
  · obtain ⟨z, d, l, G, st, pool, W, r, rfl, hA, AC, gd, h40, hp40, hW, hne, hlt, hT, q⟩ := h
    have nd := sc_chosen.nd
    have M_far := M_far0 _ AC
    have M_first_of := M_first_of _ AC
    have M_swept := M_swept0 _ AC
    have M_looped := M_looped0 _ AC
    have hr_swept : Room 6 _ := hr
    have hr_looped : Room 6 _ := hr
    have hr5 : Room 5 _ := hr.mono (by decide)
    refine ⟨_, (pss_cons (ps_if (pt_cmpR op_eq (pv 1) pe_str (nomark _)) (pss_one (ps_ret (pe_methL (T := T) (fr := []) (js := []) (lamC_by (defScope s_chosen) rfl AT.tb rfl AT.mem AT.one rfl (fun _ => rfl) (by decide +kernel) rfl) (pv 0) (pv 2) AC.cl M_first_of.m hr5 M_first_of.b))) pss_nil)
      (pss_cons (ps_if (pt_cmpR op_eq (pv 1) pe_str (nomark _)) (pss_one (ps_ret (pe_methL (T := T) (fr := ["self"]) (js := [0]) (lamC_by (defScope s_chosen) rfl AT.tb rfl AT.mem AT.one rfl (fun _ => rfl) (by decide +kernel) rfl) (pv 0) (pv 2) AC.cl M_first_of.m hr5 M_first_of.b))) pss_nil)
      (pss_cons (ps_if (pt_cmpR op_eq (pv 1) pe_str (nomark _)) (pss_one (ps_ret (pe_methL (T := T) (fr := ["self"]) (js := [0]) (lamC_by (defScope s_chosen) rfl AT.tb rfl AT.mem AT.one rfl (fun _ => rfl) (by decide +kernel) rfl) (pv 0) (pv 2) AC.cl M_first_of.m hr5 M_first_of.b))) pss_nil)
      (pss_one (ps_ret (pe_ifExp (pt_cmpR op_eq (pv 1) pe_str (nomark _)) (pe_meth (pv 0) AC.cl M_swept.m G_swept hr_swept M_swept.b .nil pass0 (pa_cons (pv 2) pa_nil)) (pe_meth (pv 0) AC.cl M_looped.m G_looped hr_looped M_looped.b .nil pass0 (pa_cons (pv 2) pa_nil)))))))), ?_⟩
    have no : ∀ {a b : Str} {A B : Prop}, a ≠ b → B → if decide (V.str a = V.str b) = true then A else B := fun h b => ifd_f (str_ne h) b
    cases r with
    | first =>
      refine ⟨_, rfl, rfl, _, rfl, ifd_t rfl ?_⟩
      refine first_read (g := fun _ => 0) F1 AT1 mb_min rfl rfl hA AC hT hW hne hlt (fun b2 fl c' H3 up B eN hc' => ?_) (fun H' e t => q H' (.of e) t (hA.keep e))
      refine keyFn_lam (k := 1) (x := "number") (N := ["number"]) (fr := []) (nscope_by (by kernel_rfl)) B (fun _ _ _ => rfl) (fun H E' => E' _ _ hc' codeO_ne) (fun b3 A3 outer3 s3 H4 n up3 hr3 E4 hn => ?_)
      exact ⟨_, pe_int, rfl, rfl⟩
    | near =>
      refine ⟨_, rfl, rfl, _, rfl, no (by decide +kernel) ⟨_, rfl, rfl, _, rfl, ifd_t rfl ?_⟩⟩
      refine first_read (g := farK l st) F1 AT1 mb_min rfl rfl hA AC hT hW hne hlt (fun b2 fl c' H3 up B eN hc' => ?_) (fun H' e t => q H' (.of e) t (hA.keep e))
      refine keyFn_lam (k := 1) (x := "number") (N := ["number", "self"]) (fr := ["self"]) (nscope_by (by kernel_rfl)) B (fun _ _ _ => rfl) (fun H E' => E' _ _ hc' codeO_ne) (fun b3 A3 outer3 s3 H4 n up3 hr3 E4 hn => ?_)
      obtain ⟨m, hm, rfl⟩ := nin_nat hn
      have hA4 := hA.keep (eN.trans E4)
      have hr_far : Room 1 _ := hr3
      have G_far := G_far0 b3
      refine ⟨_, pe_callB call_abs (by rfl) mb_abs (by decide +kernel) (pa_cons (pe_meth (pv 1) AC.cl M_far.m G_far hr_far M_far.b .nil pass0 (pa_cons (pv 0) pa_nil)) pa_nil), ?_⟩
      exact ⟨_, rfl, z.p, z.dx, _, rfl, hA4.ins, rfl, _, rfl, z, d, l, G, _, m, rfl, hA4, AC, hlt m hm, _, rfl, rfl, rfl⟩
    | soon =>
      refine ⟨_, rfl, rfl, _, rfl, no (by decide +kernel) ⟨_, rfl, rfl, _, rfl, no (by decide +kernel) ⟨_, rfl, rfl, _, rfl, ifd_t rfl ?_⟩⟩⟩
      refine first_read (g := soonK d l st) F1 AT1 mb_min rfl rfl hA AC hT hW hne hlt (fun b2 fl c' H3 up B eN hc' => ?_) (fun H' e t => q H' (.of e) t (hA.keep e))
      refine keyFn_lam (k := 1) (x := "number") (N := ["number", "self"]) (fr := ["self"]) (nscope_by (by kernel_rfl)) B (fun _ _ _ => rfl) (fun H E' => E' _ _ hc' codeO_ne) (fun b3 A3 outer3 s3 H4 n up3 hr3 E4 hn => ?_)
      obtain ⟨m, hm, rfl⟩ := nin_nat hn
      have hA4 := hA.keep (eN.trans E4)
      obtain ⟨xs, qa, hL, hlen, hq, hTq, hdq⟩ := hA4.ask (hlt m hm)
      have hr_served : Room 1 _ := hr3
      have G_served := G_served0 b3
      refine ⟨_, pe_call G_served hr_served rfl C_served.m C_served.k C_served.b .nil pass0 (pa_cons (pe_fld (pv 1) rfl) (pa_cons (pe_fld (pv 1) rfl) (pa_cons (pe_fld (pv 1) rfl) (pa_cons (pe_ix (r := rIxL K) ix_list (pe_fld (pv 1) rfl) (pv 0) (fun _ _ => rfl)) pa_nil)))), ?_⟩
      refine ⟨_, rfl, z.p, z.C, z.dx, _, _, rfl, hA4.ins, AC.cl, AC.disk, rfl, _, rfl, z.p, z.C, z.dx, _, _, rfl, hA4.ins, AC.cl, AC.now, rfl, _, rfl, z.p, z.C, z.dx, _, _, rfl, hA4.ins, AC.cl, AC.here, rfl, _, rfl, z.p, z.C, z.dx, _, _, rfl, hA4.ins, AC.cl, AC.asks, rfl, _, rfl, z.b, xs, _, _, rfl, rfl, hL, atI_nat hq, ?_⟩
      exact ⟨_, _, d, _, _, l.getD m (0, 0, 0), rfl, dp_same hA4.sub hA4.dk, hdq, gd, rfl, rfl⟩
    | sweep =>
      refine ⟨_, rfl, rfl, _, rfl, no (by decide +kernel) ⟨_, rfl, rfl, _, rfl, no (by decide +kernel) ⟨_, rfl, rfl, _, rfl, no (by decide +kernel) ⟨_, rfl, rfl, _, rfl, ifd_t rfl ?_⟩⟩⟩⟩
      exact ⟨_, rfl, z.p, z.dx, _, rfl, hA.ins, rfl, _, rfl, z, d, l, G, st, pool, W, rfl, hA, AC, h40, hp40, hW, hne, hlt, hT, q⟩
    | loop =>
      refine ⟨_, rfl, rfl, _, rfl, no (by decide +kernel) ⟨_, rfl, rfl, _, rfl, no (by decide +kernel) ⟨_, rfl, rfl, _, rfl, no (by decide +kernel) ⟨_, rfl, rfl, _, rfl, no (by decide +kernel) ?_⟩⟩⟩⟩
      exact ⟨_, rfl, z.p, z.dx, _, rfl, hA.ins, rfl, _, rfl, z, d, l, G, st, pool, W, rfl, hA, AC, h40, hp40, hW, hne, hlt, hT, fun H' e t => q H' (.of e) t (hA.keep e)⟩
end
end Ag

namespace Ag
open PySem PySem.Spec PyProof.Rows L2
/-! ### waiting, serve -/
open LamX NdefX
abbrev s_waiting : Stmt := mth 1
def sp_waiting (K : PySem.W.Frag) : Sp := fun vs H Q _ => ∃ (z : ArmP) (d : Disk) (l : List Ask) (G : Hp) (st : ArmS), vs = [.ref z.p] ∧ ArmH K z d l G H st ∧ ArmC K z.C ∧ st.left.length ≤ 40 ∧ st.left ≠ [] ∧
  ∀ (H' : Hp) (W : Addr), SameBut z.p H H' → ArmH K z d l G H' (wake l st) → H' W = some (.lst ((nints (waitN l st)).map V.int)) → Q (.ref W) H'
theorem sc_waiting : FnScope ["self", "number"] ["self"] (defScope s_waiting) := ⟨rfl, rfl, rfl, by decide +kernel, rfl, by decide +kernel, by decide +kernel⟩
theorem come_read {K : PySem.W.Frag} {z : ArmP} {d : Disk} {l : List Ask} {G H : Hp} {st : ArmS} {Q : VK} (hA : ArmH K z d l G H st) (AC : ArmC K z.C) (h40 : st.left.length ≤ 40) (q : ∀ H' D, Same H H' → H' D = some (.lst ((nints (arrived l st.now st.left)).map V.int)) → Q (.ref D) H') :
    tLc (iList K (tFld K (tVar 0) (Str.ofString "left"))) (gName 1) (tTest (tOp (rI0 fun i j => V.bl (decide (i ≤ j))) (tOp (rIxT K) (tOp (rIxL K) (tFld K (tVar 0) (Str.ofString "asks")) (tVar 1)) (tC (V.int 0))) (tFld K (tVar 0) (Str.ofString "now")))) (tVar 1) [1] [some (.ref z.p), none] H Q := by
  have hlenL : ((nints st.left).map V.int).length = st.left.length := by rw [List.length_map, nints_len]
  refine ⟨_, rfl, z.p, z.C, z.dx, _, _, rfl, hA.ins, AC.cl, AC.left, rfl, z.Lf, rfl, ⟨_, SqL.of hA.lf⟩, fun D hD => ?_⟩
  have s1 := same_new (o := .lst []) hD
  refine lc_list (K := K) (a := z.Lf) (xs := (nints st.left).map V.int) (fun i H' => Same H H' ∧ H' D = some (.lst ((nints ((st.left.take i).filter fun n => decide (come l n ≤ st.now))).map V.int))) ⟨s1, upd_same⟩ (fun i H' _ ⟨s, _⟩ => SqL.of (s _ _ hA.lf)) ?_ ?_
  · rintro i x H' hi ⟨s2, eD⟩
    obtain ⟨n, hn, rfl⟩ := nints_at hi
    have hA2 := hA.same s2
    obtain ⟨xs, qa, hL, hlen, hq, hTq, _⟩ := hA2.ask (hA.lt n (List.mem_of_getElem? hn))
    refine ⟨rfl, _, rfl, z.p, z.C, z.dx, _, _, rfl, hA2.ins, AC.cl, AC.asks, rfl, _, rfl, z.b, xs, _, _, rfl, rfl, hL, atI_nat hq, qa, _, 0, _, rfl, rfl, hTq, atI_nat (j := 0) rfl, ?_⟩
    refine ⟨_, rfl, z.p, z.C, z.dx, _, _, rfl, hA2.ins, AC.cl, AC.now, rfl, _, _, rfl, rfl, _, rfl, ?_⟩
    refine if2d (fun hc => ⟨_, rfl, _, eD, small1000 (Nat.le_trans nints_filter_len (by omega)), same_upd s2 hD, ?_⟩) (fun hc => ⟨s2, ?_⟩)
    · rw [upd_same, filter_step hn, if_pos (decide_eq_true hc)]
      unfold nints
      rw [List.map_append, List.map_append]
      rfl
    · rw [eD, filter_step hn, if_neg (by rw [decide_eq_false hc]; exact Bool.false_ne_true), List.append_nil]
  · rintro H' ⟨s2, eD⟩
    rw [hlenL, List.take_of_length_le (Nat.le_refl _)] at eD
    exact q H' D s2 eD
section
variable {P : Program} {w : World} {K : PySem.W.Frag} {mg : Str → Option Value} {base : Heap}
theorem ok_waiting {f : Addr} {fd : FuncData} (F : Fun K "waiting" "Arm.waiting" s_waiting f fd) (mb_min : mg "min" = none) : FnOk P w K mg base CX0 1 f fd ["self"] (sp_waiting K) := by
  refine F.ok sc_waiting (fun vs H Q E h => ?_) (fun cdv A outer s H vs Q E hr h => ?_)
  · obtain ⟨z, d, l, G, st, rfl, _⟩ := h
    rfl
  · obtain ⟨z, d, l, G, st, rfl, hA, AC, h40, hne, q⟩ := h
    have nd := sc_waiting.nd
    refine ⟨_, (pss_cons (ps_if (pt_cmpR (op_eqD hr.units) (pe_lc (own := [("number", 1)]) (g := (gName 1)) rfl nd (pi_list (pe_fld (pv 0) rfl)) (blkOk_by (own := [("number", 1)]) (N := ["self", "number"]) (sc := defScope s_waiting) (by decide +kernel)) (fun _ _ _ _ _ => (pg_name (i := 1) nd rfl (.inl rfl))) (fun _ _ _ _ _ => (pts_one (pt_cmpR op_le (pe_ix (r := rIxT K) ix_tup (pe_ix (r := rIxL K) ix_list (pe_fldK (K := K) (pv 0)) (pv 1) (fun _ _ => rfl)) pe_int (fun _ _ => rfl)) (pe_fldK (K := K) (pv 0)) (nomark _)))) (fun _ _ _ _ _ => (pv 1))) (pe_lst pa_nil) (nomark _)) (pss_one (ps_fld (pv 0) (pe_callB (cr_min rfl) (by rfl) mb_min (by decide +kernel) (pa_cons (pe_lc (own := [("number", 1)]) (g := (gName 1)) (tt := tYes) rfl nd (pi_list (pe_fld (pv 0) rfl)) (blkOk_by (own := [("number", 1)]) (N := ["self", "number"]) (sc := defScope s_waiting) (by decide +kernel)) (fun _ _ _ _ _ => (pg_name (i := 1) nd rfl (.inl rfl))) (fun _ _ _ _ _ => pts_nil) (fun _ _ _ _ _ => (pe_ix (r := rIxT K) ix_tup (pe_ix (r := rIxL K) ix_list (pe_fldK (K := K) (pv 0)) (pv 1) (fun _ _ => rfl)) pe_int (fun _ _ => rfl)))) pa_nil)) rfl)) pss_nil)
      (pss_one (ps_ret (pe_lc (own := [("number", 1)]) (g := (gName 1)) rfl nd (pi_list (pe_fld (pv 0) rfl)) (blkOk_by (own := [("number", 1)]) (N := ["self", "number"]) (sc := defScope s_waiting) (by decide +kernel)) (fun _ _ _ _ _ => (pg_name (i := 1) nd rfl (.inl rfl))) (fun _ _ _ _ _ => (pts_one (pt_cmpR op_le (pe_ix (r := rIxT K) ix_tup (pe_ix (r := rIxL K) ix_list (pe_fldK (K := K) (pv 0)) (pv 1) (fun _ _ => rfl)) pe_int (fun _ _ => rfl)) (pe_fldK (K := K) (pv 0)) (nomark _)))) (fun _ _ _ _ _ => (pv 1)))))), ?_⟩
    refine rd_seq (rd_if (rd_test (rd_op (come_read hA AC h40 fun H' D s2 eD => ?_))))
    refine ⟨Nat.zero_le _, fun e he => ?_⟩
    have s3 := same_new (o := .lst []) he
    have s23 := s2.trans s3
    have hA3 := hA.same s23
    refine ⟨.list ((nints (arrived l st.now st.left)).map PyData.int), .list [], dp_ints_of (SqL.of (s3 _ _ eD)), .lst (SqL.of upd_same) .nil, shaped_ints _, rfl, _, rfl, ?_⟩
    rw [eqv_nil]
    revert hA3 s23
    generalize upd H' e (.lst []) = H3
    intro s23 hA3
    refine if2d (fun hz => ?_) (fun hz => ?_)
    · have hz' : arrived l st.now st.left = [] := List.map_eq_nil_iff.mp hz
      refine ⟨_, rfl, z.p, z.C, z.dx, _, _, rfl, hA3.ins, AC.cl, AC.left, rfl, z.Lf, rfl, ⟨_, SqL.of hA3.lf⟩, fun D2 hD2 => ?_⟩
      have t1 := same_new (o := .lst []) hD2
      have hlenL : ((nints st.left).map V.int).length = st.left.length := by rw [List.length_map, nints_len]
      refine lc_list (K := K) (a := z.Lf) (xs := (nints st.left).map V.int) (fun i H' => Same H3 H' ∧ H' D2 = some (.lst (((st.left.take i).map (come l)).map V.int))) ⟨t1, upd_same⟩ (fun i H' _ ⟨s, _⟩ => SqL.of (s _ _ hA3.lf)) ?_ ?_
      · rintro i x H4 hi ⟨t2, eD2⟩
        obtain ⟨n, hn, rfl⟩ := nints_at hi
        have hA4 := hA3.same t2
        obtain ⟨xs, qa, hL, hlen, hq, hTq, _⟩ := hA4.ask (hA.lt n (List.mem_of_getElem? hn))
        refine ⟨rfl, _, rfl, z.p, z.C, z.dx, _, _, rfl, hA4.ins, AC.cl, AC.asks, rfl, _, rfl, z.b, xs, _, _, rfl, rfl, hL, atI_nat hq, qa, _, 0, _, rfl, rfl, hTq, atI_nat (j := 0) rfl, ?_⟩
        refine ⟨_, eD2, ?_, same_upd t2 hD2, ?_⟩
        · rw [List.length_map, List.length_map, List.length_take]
          exact small1000 (by omega)
        · rw [upd_same, take_more hn, List.map_append, List.map_append]
          rfl
      · rintro H4 ⟨t2, eD2⟩
        rw [hlenL, List.take_of_length_le (Nat.le_refl _)] at eD2
        have hA4 := hA3.same t2
        have hpos : 0 < (st.left.map (come l)).length := by rw [List.length_map]; exact List.length_pos_iff.mpr hne
        refine ⟨D2, st.left.map (come l), rfl, SqL.of eD2, hpos, fun m hm hle => ?_⟩
        have em : m = wakeNow l st := by
          unfold wakeNow
          rw [if_pos hz']
          exact leastI_is hm hle
        subst em
        refine ⟨_, rfl, z.p, z.C, z.dx, _, rfl, hA4.ins, AC.cl, AC.now, (by show (6 : Nat) < 1000; decide), ?_⟩
        rw [put_now]
        have hA5 : ArmH K z d l G (upd H4 z.p (.ins z.C z.dx (flds z (wake l st)))) (wake l st) := hA4.turn rfl
        have sb5 : SameBut z.p H (upd H4 z.p (.ins z.C z.dx (flds z (wake l st)))) := sb_upd (sb_of (s23.trans t2))
        refine rd_ret (come_read (st := wake l st) hA5 AC h40 fun H' D3 s5 eD3 => ?_)
        exact q H' D3 (sb_trans sb5 (sb_of s5)) (hA5.same s5) eD3
    · have hz' : arrived l st.now st.left ≠ [] := fun e => hz (by rw [e]; rfl)
      have ew : wake l st = st := by
        unfold wake wakeNow
        rw [if_neg hz']
      refine rd_next (rd_ret (come_read hA3 AC h40 fun H' D3 s5 eD3 => ?_))
      refine q H' D3 (sb_of (s23.trans s5)) ?_ ?_
      · rw [ew]
        exact hA3.same s5
      · have : waitN l st = arrived l st.now st.left := by
          unfold waitN wakeNow
          rw [if_neg hz']
        rw [this]
        exact eD3
end
end Ag

namespace Ag
open PySem PySem.Spec PyProof.Rows L2
/-! ### serve -/
open LamX NdefX
def KeepA (z : ArmP) (H H' : Hp) : Prop := ∀ b o, b ≠ z.p → b ≠ z.Lf → H b = some o → (∀ ps, o ≠ .tbl ps) → H' b = some o
theorem KeepA.trans {z : ArmP} {H H1 H2 : Hp} (a : KeepA z H H1) (b : KeepA z H1 H2) : KeepA z H H2 := fun c o n m h t => b c o n m (a c o n m h t) t
theorem tabs_upd {T : List (Addr × Str)} {H : Hp} {p : Addr} {o o' : HO} (h : Tabs T H) (e : H p = some o) (n1 : ∀ ps, o ≠ .tbl ps) (n2 : ∀ φ, o ≠ .ext φ) : Tabs T (upd H p o') := fun t ht => by
  obtain ⟨ps, t1, t2, t3⟩ := h t ht
  refine ⟨ps, by rw [upd_ne fun q => n1 ps (Option.some.inj (e.symm.trans (by rw [← q]; exact t1)))]; exact t1, t2, fun pos cv hc => ?_⟩
  obtain ⟨c0, e1, e2⟩ := t3 pos cv hc
  exact ⟨c0, e1, by rw [upd_ne fun q => n2 _ (Option.some.inj (e.symm.trans (by rw [← q]; exact e2)))]; exact e2⟩
theorem tabs_but {T : List (Addr × Str)} {H H' : Hp} {p : Addr} {o : HO} (h : Tabs T H) (e : H p = some o) (n1 : ∀ ps, o ≠ .tbl ps) (n2 : ∀ φ, o ≠ .ext φ) (s : SameBut p H H') : Tabs T H' := fun t ht => by
  obtain ⟨ps, t1, t2, t3⟩ := h t ht
  refine ⟨ps, s _ _ (fun q => n1 ps (Option.some.inj (e.symm.trans (by rw [← q]; exact t1)))) t1, t2, fun pos cv hc => ?_⟩
  obtain ⟨c0, e1, e2⟩ := t3 pos cv hc
  exact ⟨c0, e1, s _ _ (fun q => n2 _ (Option.some.inj (e.symm.trans (by rw [← q]; exact e2)))) e2⟩
theorem erase_at {n : Nat} : ∀ {os : List Nat} {j : Nat}, os[j]? = some n → (∀ m, m < j → os[m]? ≠ some n) → os.eraseIdx j = os.erase n
  | [], _, h, _ => by simp at h
  | x :: r, 0, h, _ => by
    have e : x = n := Option.some.inj h
    subst e
    rw [List.erase_cons_head]
    rfl
  | x :: r, j + 1, h, hn => by
    have e : x ≠ n := fun z => hn 0 (Nat.succ_pos _) (by rw [z]; rfl)
    rw [List.erase_cons_tail (by simpa using e)]
    have := erase_at (os := r) (j := j) h fun m hm => hn (m + 1) (by omega)
    show x :: r.eraseIdx j = _
    rw [this]
theorem first_at {n : Nat} : ∀ {os : List Nat}, n ∈ os → ∃ j : Nat, os[j]? = some n ∧ ∀ m : Nat, m < j → os[m]? ≠ some n
  | x :: r, h => by
    by_cases e : x = n
    · exact ⟨0, by rw [e]; rfl, fun m hm => absurd hm (by omega)⟩
    · obtain ⟨j, h1, h2⟩ := first_at (os := r) ((List.mem_cons.mp h).resolve_left fun z => e z.symm)
      refine ⟨j + 1, h1, fun m hm => ?_⟩
      cases m with
      | zero => exact fun z => e (Option.some.inj z)
      | succ m => exact h2 m (by omega)
theorem nints_erase (os : List Nat) (j : Nat) : (nints os).eraseIdx j = nints (os.eraseIdx j) := by
  unfold nints
  induction os generalizing j with
  | nil => rfl
  | cons x r ih =>
    cases j with
    | zero => rfl
    | succ j =>
      show (x : Int) :: (r.map _).eraseIdx j = (x : Int) :: (r.eraseIdx j).map _
      rw [ih]
theorem nints_some {os : List Nat} {j n : Nat} : (nints os)[j]? = some (n : Int) ↔ os[j]? = some n := by
  unfold nints
  rw [List.getElem?_map]
  cases os[j]? with
  | none => simp
  | some m =>
    constructor
    · intro h
      have h : ((m : Nat) : Int) = n := Option.some.inj h
      rw [show m = n by omega]
    · intro h
      rw [Option.some.inj h]
      rfl
/-- what is chosen is one of those who wait -/
theorem choseN_mem (d : Disk) (l : List Ask) (st : ArmS) (pool : List Nat) (r : Rule) (h : pool ≠ []) : choseN d l st pool r ∈ pool := by
  have one : ∀ g : Nat → Int, pick (key3 l g) pool ∈ pool := fun g => pick_mem (key3_len l g) h
  cases r with
  | first => exact one _
  | near => exact one _
  | soon => exact one _
  | sweep =>
    show sweptN l st pool ∈ pool
    unfold sweptN
    by_cases hz : aheadU l st pool = []
    · rw [if_pos hz]
      exact one _
    · rw [if_neg hz]
      exact (List.mem_filter.mp (pick_mem (key3_len l _) hz)).1
  | loop =>
    show loopedN l st pool ∈ pool
    unfold loopedN
    by_cases hz : aheadL l st pool = []
    · rw [if_pos hz]
      exact one _
    · rw [if_neg hz]
      exact (List.mem_filter.mp (pick_mem (key3_len l _) hz)).1
theorem waitN_ne {l : List Ask} {st : ArmS} (h : st.left ≠ []) : waitN l st ≠ [] := by
  unfold waitN wakeNow
  by_cases hz : arrived l st.now st.left = []
  · rw [if_pos hz]
    intro e
    have hne : st.left.map (come l) ≠ [] := fun q => h (List.map_eq_nil_iff.mp q)
    have hm : leastI (st.left.map (come l)) ∈ st.left.map (come l) := by
      cases hl : st.left.map (come l) with
      | nil => exact absurd hl hne
      | cons x r => exact (leastI_go r x).1
    obtain ⟨n, hn, e2⟩ := List.mem_map.mp hm
    have : n ∈ arrived l (leastI (st.left.map (come l))) st.left := List.mem_filter.mpr ⟨hn, decide_eq_true (by rw [e2]; exact Int.le_refl _)⟩
    rw [e] at this
    cases this
  · rw [if_neg hz]
    exact hz
theorem waitN_sub {l : List Ask} {st : ArmS} : ∀ n ∈ waitN l st, n ∈ st.left := fun n hn => (List.mem_filter.mp hn).1
theorem waitN_len {l : List Ask} {st : ArmS} : (waitN l st).length ≤ st.left.length := List.length_filter_le _ _
theorem nextN_mem {d : Disk} {l : List Ask} {r : Rule} {st : ArmS} (h : st.left ≠ []) : nextN d l r st ∈ st.left := waitN_sub _ (choseN_mem d l _ _ r (waitN_ne h))
abbrev s_serve : Stmt := mth 7
def sp_serve (K : PySem.W.Frag) (T : List (Addr × Str)) : Sp := fun vs H Q _ => ∃ (z : ArmP) (d : Disk) (l : List Ask) (G : Hp) (st : ArmS) (r : Rule), vs = [.ref z.p, .str (ruleS r)] ∧ ArmH K z d l G H st ∧ ArmC K z.C ∧ GoodDisk d ∧ l.length ≤ 40 ∧ st.left.length ≤ 40 ∧ st.left ≠ [] ∧ Tabs T H ∧
  ∀ (H' : Hp) (t : Addr), KeepA z H H' → Tabs T H' → ArmH K z d l G H' (nextS d l r st) → (∀ o, H t = some o → ∃ ps, o = .tbl ps) → H' t = some (.tup [.int ((nextN d l r st : Nat) : Int), .int (nextS d l r st).now]) → Q (.ref t) H'
theorem sc_serve : FnScope ["self", "rule", "number"] ["self", "rule"] (defScope s_serve) := ⟨rfl, rfl, rfl, by decide +kernel, rfl, by decide +kernel, by decide +kernel⟩
section
variable {P : Program} {w : World} {K : PySem.W.Frag} {mg : Str → Option Value} {base : Heap}
theorem ok_serve {f f1 f2 f5 : Addr} {fd fd1 fd2 fd5 : FuncData} {T : List (Addr × Str)} (F : Fun K "serve" "Arm.serve" s_serve f fd)
    (G_waiting : FnOk P w K mg base CX0 1 f1 fd1 ["self"] (sp_waiting K)) (M_waiting0 : ∀ C, ArmC K C → Mt K C "waiting" f1 fd1 ["self"])
    (G_chosen : FnOk P w K mg base CX0 7 f2 fd2 ["self", "rule", "some"] (sp_chosen K T)) (M_chosen0 : ∀ C, ArmC K C → Mt K C "chosen" f2 fd2 ["self", "rule", "some"])
    (G_served : FnOk P w K mg base CX0 1 f5 fd5 ["disk", "now", "here", "ask"] (sp_served K)) (C_served : Cal K mg "served" f5 fd5 ["disk", "now", "here", "ask"]) : FnOk P w K mg base CX0 8 f fd ["self", "rule"] (sp_serve K T) := by
  refine F.ok sc_serve (fun vs H Q E h => ?_) (fun cdv A outer s H vs Q E hr h => ?_)
  · obtain ⟨z, d, l, G, st, r, rfl, _⟩ := h
    rfl
  · obtain ⟨z, d, l, G, st, r, rfl, hA, AC, gd, h40, hp40, hne, hT, q⟩ := h
    have nd := sc_serve.nd
    have M_waiting := M_waiting0 _ AC
    have M_chosen := M_chosen0 _ AC
    have hr_waiting : Room 1 _ := hr.mono (by decide)
    have hr_chosen : Room 7 _ := hr
    have hr_served : Room 1 _ := hr.mono (by decide)
    refine ⟨_, (pss_cons (ps_set (i := 2) nd rfl (.inl rfl) (pe_meth (pv 0) AC.cl M_chosen.m G_chosen hr_chosen M_chosen.b .nil pass0 (pa_cons (pv 1) (pa_cons (pe_meth0 (pv 0) AC.cl M_waiting.m G_waiting hr_waiting M_waiting.b .nil pass0) pa_nil))))
      (pss_cons (ps_fld (pv 0) (pe_call G_served hr_served rfl C_served.m C_served.k C_served.b .nil pass0 (pa_cons (pe_fld (pv 0) rfl) (pa_cons (pe_fld (pv 0) rfl) (pa_cons (pe_fld (pv 0) rfl) (pa_cons (pe_ix (r := rIxL K) ix_list (pe_fld (pv 0) rfl) (pv 2) (fun _ _ => rfl)) pa_nil))))) rfl)
      (pss_cons (ps_fld (pv 0) (pe_ix (r := rIxT K) ix_tup (pe_ix (r := rIxL K) ix_list (pe_fld (pv 0) rfl) (pv 2) (fun _ _ => rfl)) pe_int (fun _ _ => rfl)) rfl)
      (pss_cons (ps_expr (pe_bm PySem.F.plainAttrs_list PySem.F.slot_list_remove PySem.F.type_list_remove mt_remove (pe_fld (pv 0) rfl) (pa_cons (pv 2) pa_nil)))
      (pss_one (ps_ret (pe_tup (pa_cons (pv 2) (pa_cons (pe_fld (pv 0) rfl) pa_nil))))))))), ?_⟩
    refine ⟨_, rfl, z.p, z.dx, _, rfl, hA.ins, rfl, _, rfl, _, rfl, z.p, z.dx, _, rfl, hA.ins, rfl, z, d, l, G, st, rfl, hA, AC, hp40, hne, fun H1 W sb1 hA1 hW => ?_⟩
    have hT1 : Tabs T H1 := tabs_but hT hA.ins (by intro _ q; cases q) (by intro _ q; cases q) sb1
    have hlw : (waitN l st).length ≤ 40 := Nat.le_trans waitN_len hp40
    refine ⟨z, d, l, G, wake l st, waitN l st, W, r, rfl, hA1, AC, gd, h40, hlw, hW, waitN_ne hne, fun n hn => hA.lt n (waitN_sub n hn), hT1, fun H2 kp2 hT2 hA2 => ?_⟩
    have hnm : choseN d l (wake l st) (waitN l st) r ∈ st.left := nextN_mem hne
    have hnl := hA.lt _ hnm
    obtain ⟨xs, qa, hL, hlen, hq, hTq, hdq⟩ := hA2.ask hnl
    refine ⟨_, rfl, z.p, z.C, z.dx, _, _, rfl, hA2.ins, AC.cl, AC.disk, rfl, _, rfl, z.p, z.C, z.dx, _, _, rfl, hA2.ins, AC.cl, AC.now, rfl, _, rfl, z.p, z.C, z.dx, _, _, rfl, hA2.ins, AC.cl, AC.here, rfl, _, rfl, z.p, z.C, z.dx, _, _, rfl, hA2.ins, AC.cl, AC.asks, rfl, _, rfl, z.b, xs, _, _, rfl, rfl, hL, atI_nat hq, ?_⟩
    refine ⟨_, _, d, _, _, l.getD (nextN d l r st) (0, 0, 0), rfl, dp_same hA2.sub hA2.dk, hdq, gd, ?_⟩
    refine ⟨_, rfl, z.p, z.C, z.dx, _, rfl, hA2.ins, AC.cl, AC.now, (by show (6 : Nat) < 1000; decide), ?_⟩
    rw [put_now]
    have hA3 := hA2.turn (s' := ⟨(nextS d l r st).now, st.here, (nextS d l r st).up, st.left⟩) rfl
    have sb3 : SameBut z.p H2 (upd H2 z.p (.ins z.C z.dx (flds z ⟨(nextS d l r st).now, st.here, (nextS d l r st).up, st.left⟩))) := sb_upd sb_refl
    have hT3 := tabs_but hT2 hA2.ins (by intro _ q; cases q) (by intro _ q; cases q) sb3
    have kp3 : KeepP z H2 (upd H2 z.p (.ins z.C z.dx (flds z ⟨(nextS d l r st).now, st.here, (nextS d l r st).up, st.left⟩))) := fun b o n h _ => sb3 b o n h
    have fold : ∀ {A : Hp → Prop}, A (upd H2 z.p (.ins z.C z.dx (flds z ⟨(nextS d l r st).now, st.here, (nextS d l r st).up, st.left⟩))) → A (upd H2 z.p (.ins z.C z.dx (flds z { ({ wake l st with up := choseU l (wake l st) (waitN l st) r } : ArmS) with now := serve d (wakeNow l st) st.here (l.getD (nextN d l r st) (0, 0, 0)) }))) := fun h => h
    refine fold ?_
    revert hA3 hT3 kp3
    generalize upd H2 z.p (.ins z.C z.dx (flds z ⟨(nextS d l r st).now, st.here, (nextS d l r st).up, st.left⟩)) = H3
    intro hA3 hT3 kp3
    obtain ⟨xs3, qa3, hL3, hlen3, hq3, hTq3, _⟩ := hA3.ask hnl
    refine ⟨_, rfl, z.p, z.C, z.dx, _, _, rfl, hA3.ins, AC.cl, AC.asks, rfl, _, rfl, z.b, xs3, _, _, rfl, rfl, hL3, atI_nat hq3, qa3, _, 1, _, rfl, rfl, hTq3, atI_nat (j := 1) rfl, ?_⟩
    refine ⟨_, rfl, z.p, z.C, z.dx, _, rfl, hA3.ins, AC.cl, AC.here, (by show (6 : Nat) < 1000; decide), ?_⟩
    rw [put_here]
    have hA4 := hA3.turn (s' := ⟨(nextS d l r st).now, (nextS d l r st).here, (nextS d l r st).up, st.left⟩) rfl
    have sb4 : SameBut z.p H3 (upd H3 z.p (.ins z.C z.dx (flds z ⟨(nextS d l r st).now, (nextS d l r st).here, (nextS d l r st).up, st.left⟩))) := sb_upd sb_refl
    have hT4 := tabs_but hT3 hA3.ins (by intro _ q; cases q) (by intro _ q; cases q) sb4
    have kp4 : KeepP z H3 (upd H3 z.p (.ins z.C z.dx (flds z ⟨(nextS d l r st).now, (nextS d l r st).here, (nextS d l r st).up, st.left⟩))) := fun b o n h _ => sb4 b o n h
    have fold : ∀ {A : Hp → Prop}, A (upd H3 z.p (.ins z.C z.dx (flds z ⟨(nextS d l r st).now, (nextS d l r st).here, (nextS d l r st).up, st.left⟩))) → A (upd H3 z.p (.ins z.C z.dx (flds z { (⟨(nextS d l r st).now, st.here, (nextS d l r st).up, st.left⟩ : ArmS) with here := trk l (nextN d l r st) }))) := fun h => h
    refine fold ?_
    revert hA4 hT4 kp4
    generalize upd H3 z.p (.ins z.C z.dx (flds z ⟨(nextS d l r st).now, (nextS d l r st).here, (nextS d l r st).up, st.left⟩)) = H4
    intro hA4 hT4 kp4
    obtain ⟨j, hj, hjn⟩ := first_at hnm
    have hlf4 : H4 z.Lf = some (.lst ((nints st.left).map V.int)) := hA4.lf
    refine ⟨_, rfl, z.p, z.C, z.dx, _, _, rfl, hA4.ins, AC.cl, AC.left, rfl, .inl ⟨rfl, _, SqL.of hlf4⟩, _, rfl, z.Lf, nints st.left, ((nextN d l r st : Nat) : Int), j, rfl, rfl, hlf4, nints_some.mpr hj, fun m hm e => hjn m hm (nints_some.mp e), ?_⟩
    rw [nints_erase, erase_at hj hjn]
    have nLp : z.Lf ≠ z.p := ne_of hlf4 hA4.ins (by intro q; cases q)
    have hA5 : ArmH K z d l G (upd H4 z.Lf (.lst ((nints (st.left.erase (nextN d l r st))).map V.int))) (nextS d l r st) :=
      ⟨hA4.nt, fun b o k => by rw [upd_ne (ne_of_none k hA4.gL)]; exact hA4.sub b o k, hA4.gp, hA4.gL, hA4.dk, hA4.ak, by rw [upd_ne nLp.symm]; exact hA4.ins, upd_same, fun n hn => hA.lt n (List.mem_of_mem_erase hn)⟩
    have hT5 : Tabs T (upd H4 z.Lf (.lst ((nints (st.left.erase (nextN d l r st))).map V.int))) := tabs_upd hT4 hlf4 (by intro _ q; cases q) (by intro _ q; cases q)
    have kp5 : KeepA z H (upd H4 z.Lf (.lst ((nints (st.left.erase (nextN d l r st))).map V.int))) := fun b o n m h t => by
      rw [upd_ne m]
      exact kp4 b o n (kp3 b o n (kp2 b o n (sb1 b o n h) t) t) t
    have fold : ∀ {A : Hp → Prop}, A (upd H4 z.Lf (.lst ((nints (st.left.erase (nextN d l r st))).map V.int))) → A (upd H4 z.Lf (.lst ((nints (st.left.erase (choseN d l (wake l st) (waitN l st) r))).map V.int))) := fun h => h
    refine fold ?_
    revert hA5 hT5 kp5
    generalize upd H4 z.Lf (.lst ((nints (st.left.erase (nextN d l r st))).map V.int)) = H5
    intro hA5 hT5 kp5
    refine ⟨_, rfl, _, rfl, z.p, z.C, z.dx, _, _, rfl, hA5.ins, AC.cl, AC.now, rfl, (by show 2 ≤ sizeLine; decide), fun t ht => ?_⟩
    have s6 := same_new (o := HO.tup [.int ((nextN d l r st : Nat) : Int), .int (nextS d l r st).now]) ht
    refine q _ t (kp5.trans (fun b o _ _ h _ => s6 b o h)) (hT5.ext s6) (hA5.same s6) (fun o ho => ?_) upd_same
    by_cases hz : ∃ ps, o = .tbl ps
    · exact hz
    · have hz' : ∀ ps, o ≠ .tbl ps := fun ps e => hz ⟨ps, e⟩
      have ntp : t ≠ z.p := fun e => by rw [e, hA5.ins] at ht; cases ht
      have ntL : t ≠ z.Lf := fun e => by rw [e, hA5.lf] at ht; cases ht
      have := kp5 t o ntp ntL ho hz'
      rw [ht] at this
      cases this
end
end Ag

namespace Ag
open PySem PySem.Spec PyProof.Rows L2
/-! ### the arm made, rows_by -/
open LamX NdefX
abbrev s_init : Stmt := mth 0
def sp_init (K : PySem.W.Frag) : Sp := fun vs H Q _ => ∃ (C x dx a b : Addr) (d : Disk) (l : List Ask) (G : Hp), vs = [.ref x, .ref a, .ref b] ∧ (∀ b ps, G b ≠ some (.tbl ps)) ∧ Same G H ∧ G x = none ∧ Dp K G (.ref a) (dDisk d) ∧ Dp K G (.ref b) (dAsks l) ∧ H x = some (.ins C dx []) ∧ ArmC K C ∧ l.length ≤ 40 ∧
  ∀ (H' : Hp) (Lf : Addr), SameBut x H H' → ArmH K ⟨C, x, dx, a, b, Lf⟩ d l G H' (armS0 d l) → Q .non H'
theorem sc_init : FnScope ["self", "disk", "asks"] ["self", "disk", "asks"] (defScope s_init) := ⟨rfl, rfl, rfl, by decide +kernel, rfl, by decide +kernel, by decide +kernel⟩
theorem putF_le (f : Str) (v : V) : ∀ fs : List (Str × V), (putF f v fs).length ≤ fs.length + 1
  | [] => Nat.le_refl _
  | (g, x) :: r => by
    have ih := putF_le f v r
    unfold putF
    split
    · exact Nat.le_succ _
    · exact Nat.succ_le_succ ih
theorem lt1 {f : Str} {v : V} {n : Nat} {fs : List (Str × V)} (h : fs.length < n) : (putF f v fs).length < n + 1 := Nat.lt_of_le_of_lt (putF_le f v fs) (Nat.succ_lt_succ h)
/-- the heap less the tables -/
def ntH (H : Hp) : Hp := fun b => match H b with
  | some (.tbl _) => none
  | o => o
theorem ntH_some {H : Hp} {b : Addr} {o : HO} : ntH H b = some o ↔ H b = some o ∧ ∀ ps, o ≠ .tbl ps := by
  unfold ntH
  constructor
  · intro h
    cases e : H b with
    | none => rw [e] at h; cases h
    | some u =>
      rw [e] at h
      cases u with
      | tbl ps => cases h
      | _ => cases h; exact ⟨rfl, fun ps q => by cases q⟩
  · rintro ⟨h, n⟩
    rw [h]
    cases o with
    | tbl ps => exact absurd rfl (n ps)
    | _ => rfl
theorem ntH_nt (H : Hp) : ∀ b ps, ntH H b ≠ some (.tbl ps) := fun b ps e => (ntH_some.mp e).2 ps rfl
theorem ntH_sub (H : Hp) : Same (ntH H) H := fun b o e => (ntH_some.mp e).1
theorem ntH_keep {H H' : Hp} (e : ExtN H H') : Same (ntH H) H' := fun b o h => e b o (ntH_some.mp h).1 (ntH_some.mp h).2
theorem ntH_none {H : Hp} {b : Addr} (h : H b = none) : ntH H b = none := by unfold ntH; rw [h]
theorem ntH_mono {H H' : Hp} (e : ExtN H H') : Same (ntH H) (ntH H') := fun b o h => ntH_some.mpr ⟨ntH_keep e b o h, (ntH_some.mp h).2⟩
mutual
theorem dp_nt {K : PySem.W.Frag} {H : Hp} : ∀ {d : PyData} {v : V}, Dp K H v d → Dp K (ntH H) v d
  | .none, _, h => by cases h; exact .non
  | .bool _, _, h => by cases h; exact .bl _
  | .int _, _, h => by cases h; exact .int _
  | .str _, _, h => by cases h; exact .str _
  | .list _, _, h => by
    cases h with
    | lst hs ha =>
      refine .lst ?_ (dpa_nt ha)
      rcases hs with (h | ⟨o, h⟩) | h
      · exact .inl (.inl (ntH_some.mpr ⟨h, fun ps q => by cases q⟩))
      · exact .inl (.inr ⟨o, ntH_some.mpr ⟨h, fun ps q => by cases q⟩⟩)
      · exact .inr h
  | .tuple _, _, h => by
    cases h with
    | tup hs ha =>
      refine .tup ?_ (dpa_nt ha)
      rcases hs with (h | ⟨o, h⟩) | h
      · exact .inl (.inl (ntH_some.mpr ⟨h, fun ps q => by cases q⟩))
      · exact .inl (.inr ⟨o, ntH_some.mpr ⟨h, fun ps q => by cases q⟩⟩)
      · exact .inr h
  | .dict _, _, h => by cases h
theorem dpa_nt {K : PySem.W.Frag} {H : Hp} : ∀ {ds : List PyData} {vs : List V}, DpAll K H vs ds → DpAll K (ntH H) vs ds
  | [], _, h => by cases h; exact .nil
  | _ :: _, _, h => by
    cases h with
    | cons h1 h2 => exact .cons (dp_nt h1) (dpa_nt h2)
end
section
variable {P : Program} {w : World} {K : PySem.W.Frag} {mg : Str → Option Value} {base : Heap}
theorem ok_init {f : Addr} {fd : FuncData} (F : Fun K "__init__" "Arm.__init__" s_init f fd) (mb_list : mg "list" = none) (mb_range : mg "range" = none) (mb_len : mg "len" = none) : FnOk P w K mg base CX0 1 f fd ["self", "disk", "asks"] (sp_init K) := by
  refine F.ok sc_init (fun vs H Q E h => ?_) (fun cdv A outer s H vs Q E hr h => ?_)
  · obtain ⟨C, x, dx, a, b, d, l, G, rfl, _⟩ := h
    rfl
  · obtain ⟨C, x, dx, a, b, d, l, G, rfl, nt, sub, gx, dk, ak, hx, AC, h40, q⟩ := h
    have nd := sc_init.nd
    obtain ⟨a', e1, hT⟩ := dp_disk dk
    cases e1
    obtain ⟨b', xs, e2, hL, hlen, _⟩ := dp_asks ak
    cases e2
    refine ⟨_, (pss_cons (ps_fld (pv 0) (pv 1) rfl)
      (pss_cons (ps_fld (pv 0) (pv 2) rfl)
      (pss_cons (ps_fld (pv 0) pe_int rfl)
      (pss_cons (ps_fld (pv 0) (pe_ix (r := rIxT K) ix_tup (pv 1) pe_int (fun _ _ => rfl)) rfl)
      (pss_cons (ps_fld (pv 0) pe_bl rfl)
      (pss_one (ps_fld (pv 0) (pe_listRg rfl rfl mb_list (prg_1 rfl mb_range (pe_callB call_len_seq (by rfl) mb_len PySem.boot_len (pa_cons (pv 2) pa_nil)))) rfl))))))), ?_⟩
    have step : ∀ {H1 : Hp} {fs fs' : List (Str × V)}, Same G H1 → SameBut x H H1 → fs' = fs' → Same G (upd H1 x (.ins C dx fs')) ∧ SameBut x H (upd H1 x (.ins C dx fs')) := fun s1 s2 _ => ⟨same_upd s1 gx, sb_upd s2⟩
    refine ⟨_, rfl, _, rfl, x, C, dx, _, rfl, hx, AC.cl, AC.disk, (by decide), ?_⟩
    obtain ⟨g1, b1⟩ := step (fs := []) (fs' := putF "disk" (.ref a) []) sub sb_refl rfl
    refine ⟨_, rfl, _, rfl, x, C, dx, _, rfl, upd_same, AC.cl, AC.asks, (lt1 (by decide)), ?_⟩
    obtain ⟨g2, b2⟩ := step (fs := []) (fs' := putF "asks" (.ref b) (putF "disk" (.ref a) [])) g1 b1 rfl
    refine ⟨_, rfl, x, C, dx, _, rfl, upd_same, AC.cl, AC.now, (lt1 (lt1 (by decide))), ?_⟩
    obtain ⟨g3, b3⟩ := step (fs := []) (fs' := putF "now" (.int 0) (putF "asks" (.ref b) (putF "disk" (.ref a) []))) g2 b2 rfl
    refine ⟨_, rfl, a, _, 3, _, rfl, rfl, same_sqt g3 hT, atI_nat (j := 3) rfl, _, rfl, x, C, dx, _, rfl, upd_same, AC.cl, AC.here, (lt1 (lt1 (lt1 (by decide)))), ?_⟩
    obtain ⟨g4, b4⟩ := step (fs := []) (fs' := putF "here" (.int d.he) (putF "now" (.int 0) (putF "asks" (.ref b) (putF "disk" (.ref a) [])))) g3 b3 rfl
    refine ⟨_, rfl, x, C, dx, _, rfl, upd_same, AC.cl, AC.up, (lt1 (lt1 (lt1 (lt1 (by decide))))), ?_⟩
    obtain ⟨g5, b5⟩ := step (fs := []) (fs' := putF "up" (.bl true) (putF "here" (.int d.he) (putF "now" (.int 0) (putF "asks" (.ref b) (putF "disk" (.ref a) []))))) g4 b4 rfl
    refine ⟨_, rfl, b, xs, rfl, .inl (g5.seq hL), _, rfl, RgOk.of_le (by decide) (by omega) (by decide) (by omega), fun Lf hLf => ?_⟩
    rw [show rgV 0 (xs.length : Int) = (nints (List.range l.length)).map V.int by rw [hlen]; exact rg_nints _]
    have nLx : x ≠ Lf := ne_of_none upd_same hLf
    refine ⟨_, rfl, x, C, dx, _, rfl, by rw [upd_ne nLx]; exact upd_same, AC.cl, AC.left, (lt1 (lt1 (lt1 (lt1 (lt1 (by decide)))))), ?_⟩
    have gL : G Lf = none := g5.free hLf
    refine q _ Lf (sb_upd (sb_trans b5 (sb_of (same_new hLf)))) ⟨nt, same_upd (g5.trans (same_new hLf)) gx, gx, gL, dk, ak, ?_, by rw [upd_ne nLx.symm]; exact upd_same, fun n hn => List.mem_range.mp hn⟩
    exact upd_same.trans (by kernel_rfl)
end

/-! ### rows_by -/
theorem runS_left (d : Disk) (l : List Ask) (r : Rule) (st : ArmS) : ∀ k, k ≤ st.left.length → (runS d l r k st).left.length = st.left.length - k
  | 0, _ => rfl
  | k + 1, h => by
    have ih := runS_left d l r st k (by omega)
    have hne : (runS d l r k st).left ≠ [] := fun e => by rw [e] at ih; simp at ih; omega
    show ((runS d l r k st).left.erase (nextN d l r (runS d l r k st))).length = _
    rw [List.length_erase_of_mem (nextN_mem hne), ih]
    omega
theorem rowsS_len (d : Disk) (l : List Ask) (r : Rule) (st : ArmS) : ∀ k, (rowsS d l r st k).length = k
  | 0 => rfl
  | k + 1 => by
    show (rowsS d l r st k ++ [_]).length = _
    rw [List.length_append, rowsS_len d l r st k]
    rfl
def RowV (G H : Hp) (x : V) (r : Nat × Int) : Prop := ∃ t, x = .ref t ∧ H t = some (.tup [.int (r.1 : Int), .int r.2]) ∧ G t = none
theorem rowV_dp {K : PySem.W.Frag} {G H : Hp} {D : Addr} (hD : ∃ ys, H D = some (.lst ys)) : ∀ {xs : List V} {rs : List (Nat × Int)}, All2 (RowV G H) xs rs → DpAll K (fr G H D) xs (rs.map dRow)
  | [], [], _ => .nil
  | x :: xs, r :: rs, h => by
    obtain ⟨⟨t, rfl, ht, gt⟩, h2⟩ := h
    obtain ⟨ys, hD'⟩ := hD
    exact .cons (dp_tints_of (ns := [(r.1 : Int), r.2]) (SqT.of (fr_at (ne_of ht hD' (by intro q; cases q)) gt ht))) (rowV_dp ⟨ys, hD'⟩ h2)
  | [], _ :: _, h => h.elim
  | _ :: _, [], h => h.elim
theorem ArmH.keepD {K : PySem.W.Frag} {z : ArmP} {d : Disk} {l : List Ask} {G H H' : Hp} {s : ArmS} {D : Addr} (h : ArmH K z d l G H s) (e : ∀ b o, b ≠ D → H b = some o → H' b = some o) (gD : G D = none) (n1 : D ≠ z.p) (n2 : D ≠ z.Lf) : ArmH K z d l G H' s :=
  ⟨h.nt, fun b o k => e b o (ne_of_none k gD) (h.sub b o k), h.gp, h.gL, h.dk, h.ak, e _ _ n1.symm h.ins, e _ _ n2.symm h.lf, h.lt⟩
abbrev s_rows_by : Stmt := top 26
def sp_rows_by (K : PySem.W.Frag) (T : List (Addr × Str)) : Sp := fun vs H Q _ => ∃ (v u : V) (d : Disk) (l : List Ask) (r : Rule), vs = [v, u, .str (ruleS r)] ∧ Dp K H v (dDisk d) ∧ Dp K H u (dAsks l) ∧ GoodDisk d ∧ l.length ≤ 40 ∧ Tabs T H ∧
  ∀ (H' : Hp) (D : Addr) (xs : List V), Same (ntH H) H' → Tabs T H' → ntH H D = none → H' D = some (.lst xs) → DpAll K (fr (ntH H) H' D) xs ((ruledR d l r).map dRow) → Q (.ref D) H'
theorem sc_rows_by : FnScope ["disk", "asks", "rule", "arm", "turn"] ["disk", "asks", "rule"] (defScope s_rows_by) := ⟨rfl, rfl, rfl, by decide +kernel, rfl, by decide +kernel, by decide +kernel⟩
section
variable {P : Program} {w : World} {K : PySem.W.Frag} {mg : Str → Option Value} {base : Heap}
theorem ok_rows_by {f f1 f2 C : Addr} {fd fd1 fd2 : FuncData} {T : List (Addr × Str)} (F : Fun K "rows_by" "rows_by" s_rows_by f fd) (AC : ArmC K C) (MK_Arm : Mk K C f1) (mg_Arm : mg "Arm" = some (.ref C))
    (G_init : FnOk P w K mg base CX0 1 f1 fd1 ["self", "disk", "asks"] (sp_init K)) (b_init : Binds K fd1 ["self", "disk", "asks"] [])
    (G_serve : FnOk P w K mg base CX0 8 f2 fd2 ["self", "rule"] (sp_serve K T)) (M_serve : Mt K C "serve" f2 fd2 ["self", "rule"])
    (mb_range : mg "range" = none) (mb_len : mg "len" = none) : FnOk P w K mg base CX0 9 f fd ["disk", "asks", "rule"] (sp_rows_by K T) := by
  refine F.ok sc_rows_by (fun vs H Q E h => ?_) (fun cdv A outer s H vs Q E hr h => ?_)
  · obtain ⟨v, u, d, l, r, rfl, _⟩ := h
    rfl
  · obtain ⟨v, u, d, l, r, rfl, hd, ha, gd, h40, hT, q⟩ := h
    have nd := sc_rows_by.nd
    have hr_serve : Room 8 _ := hr
    have hr_init : Room 2 _ := hr.mono (by decide)
    obtain ⟨a, rfl, _⟩ := dp_disk hd
    obtain ⟨b, xs, rfl, hL, hlen, _⟩ := dp_asks ha
    refine ⟨_, (pss_cons (ps_set (i := 3) nd rfl (.inr rfl) (pe_make MK_Arm G_init hr_init rfl mg_Arm b_init .nil pass0 (pa_cons (pv 0) (pa_cons (pv 1) pa_nil))))
      (pss_one (ps_ret (pe_lc (own := [("turn", 4)]) (g := (gName 4)) (tt := tYes) rfl nd (pi_range1 rfl mb_range (pa_cons (pe_callB call_len_seq (by rfl) mb_len PySem.boot_len (pa_cons (pv 1) pa_nil)) pa_nil)) (blkOk_by (own := [("turn", 4)]) (N := ["disk", "asks", "rule", "arm", "turn"]) (sc := defScope s_rows_by) (by decide +kernel)) (fun _ _ _ _ _ => (pg_name (i := 4) nd rfl (.inl rfl))) (fun _ _ _ _ _ => pts_nil) (fun _ _ _ _ _ => (pe_meth (pv 3) AC.cl M_serve.m G_serve hr_serve M_serve.b .nil pass0 (pa_cons (pv 2) pa_nil))))))), ?_⟩
    refine ⟨_, rfl, _, rfl, fun x dx hx hdx nxd => ?_⟩
    have gx : ntH H x = none := ntH_none hx
    have gdx : ntH H dx = none := ntH_none hdx
    have s1 : Same H (upd (upd H dx (.own x)) x (.ins C dx [])) := same_upd (same_new hdx) hx
    refine ⟨C, x, dx, a, b, d, l, ntH H, rfl, ntH_nt H, (ntH_sub H).trans s1, gx, dp_nt hd, dp_nt ha, upd_same, AC, h40, fun H1 Lf sb1 hA1 => ⟨rfl, ?_⟩⟩
    have hT1 : Tabs T H1 := tabs_but (hT.ext s1) upd_same (by intro _ q; cases q) (by intro _ q; cases q) sb1
    have hL1 : SqL K H1 b xs := (hA1.sub).seq (by
      rcases hL with (h | ⟨o, h⟩) | h
      · exact .inl (.inl (ntH_some.mpr ⟨h, fun ps q => by cases q⟩))
      · exact .inl (.inr ⟨o, ntH_some.mpr ⟨h, fun ps q => by cases q⟩⟩)
      · exact .inr h)
    refine ⟨_, rfl, b, xs, rfl, .inl hL1, l.length, by rw [hlen], by omega, by omega, fun D hD => ?_⟩
    have s2 := same_new (o := .lst []) hD
    have gD : ntH H D = none := (hA1.sub).free hD
    have hp0 : armS0 d l = runS d l r 0 (armS0 d l) := rfl
    refine lc_range (lo := 0) (n := l.length) (fun i H' => ArmH K ⟨C, x, dx, a, b, Lf⟩ d l (ntH H) H' (runS d l r i (armS0 d l)) ∧ Tabs T H' ∧ ∃ ts : List V, H' D = some (.lst ts) ∧ ts.length = i ∧ All2 (RowV (ntH H) H') ts (rowsS d l r (armS0 d l) i)) ⟨hA1.same s2, hT1.ext s2, [], upd_same, rfl, trivial⟩ ?_ ?_
    · rintro i H2 hi ⟨hA2, hT2, ts, eD, hts, hrows⟩
      have hl : (runS d l r i (armS0 d l)).left.length = l.length - i := by
        have := runS_left d l r (armS0 d l) i (by show i ≤ (List.range l.length).length; rw [List.length_range]; omega)
        rw [this]
        show (List.range l.length).length - i = _
        rw [List.length_range]
      have hne : (runS d l r i (armS0 d l)).left ≠ [] := fun e => by rw [e] at hl; simp at hl; omega
      refine ⟨rfl, _, rfl, x, dx, _, rfl, hA2.ins, rfl, _, rfl, ⟨C, x, dx, a, b, Lf⟩, d, l, ntH H, _, r, rfl, hA2, AC, gd, h40, by omega, hne, hT2, fun H3 t kp hT3 hA3 ht0 ht => ?_⟩
      have nDp : D ≠ x := ne_of eD hA2.ins (by intro q; cases q)
      have nDL : D ≠ Lf := fun e => by
        have h1 := hA1.lf
        rw [show ArmP.Lf ⟨C, x, dx, a, b, Lf⟩ = D from e.symm, hD] at h1
        cases h1
      have eD3 := kp D _ nDp nDL eD (by intro _ q; cases q)
      have ntD : t ≠ D := ne_of ht eD3 (by intro q; cases q)
      have gt : ntH H t = none := by
        cases q : ntH H t with
        | none => rfl
        | some o =>
          obtain ⟨ps, e⟩ := ht0 o (hA2.sub t o q)
          exact absurd (e ▸ q) (ntH_nt H t ps)
      refine ⟨ts, eD3, small1000 (by omega), hA3.keepD (fun b' o n h => by rw [upd_ne n]; exact h) gD nDp nDL, tabs_upd hT3 eD3 (by intro _ q; cases q) (by intro _ q; cases q), ts ++ [.ref t], upd_same, by rw [List.length_append, hts]; rfl, ?_⟩
      refine all2_snoc ⟨t, rfl, by rw [upd_ne ntD]; exact ht, gt⟩ (all2_mono (fun y rr hy => ?_) hrows)
      obtain ⟨t', e, h1, h2⟩ := hy
      have n1 : t' ≠ x := ne_of h1 hA2.ins (by intro q; cases q)
      have n2 : t' ≠ Lf := ne_of h1 hA2.lf (by intro q; cases q)
      have n3 : t' ≠ D := ne_of h1 eD (by intro q; cases q)
      exact ⟨t', e, by rw [upd_ne n3]; exact kp t' _ n1 n2 h1 (by intro _ q; cases q), h2⟩
    · rintro H2 ⟨hA2, hT2, ts, eD, hts, hrows⟩
      exact q H2 D ts hA2.sub hT2 gD eD (rowV_dp ⟨_, eD⟩ hrows)
end
end Ag

namespace Ag
open PySem PySem.Spec PyProof.Rows L2
/-! ### costs_of -/
abbrev s_costs_of : Stmt := top 19
def sp_costs_of (K : PySem.W.Frag) : Sp := fun vs H Q _ => ∃ (v u o : V) (d : Disk) (l : List Ask) (rs : List (Nat × Int)), vs = [v, u, o] ∧ Dp K H v (dDisk d) ∧ Dp K H u (dAsks l) ∧ Dp K H o (.list (rs.map dRow)) ∧ (∀ r ∈ rs, r.1 < l.length) ∧ rs.length ≤ 1000 ∧
  ∀ (H' : Hp) (p : Addr), Same H H' → H p = none → H' p = some (.tup ([(costsOf d l rs).1, (costsOf d l rs).2.1, (costsOf d l rs).2.2].map V.int)) → Q (.ref p) H'
theorem sc_costs_of : FnScope ["disk", "asks", "rows", "way", "here", "waits", "number", "done"] ["disk", "asks", "rows"] (defScope s_costs_of) := ⟨rfl, rfl, rfl, by decide +kernel, rfl, by decide +kernel, by decide +kernel⟩
section
variable {P : Program} {w : World} {K : PySem.W.Frag} {mg : Str → Option Value} {base : Heap}
theorem ok_costs_of {f : Addr} {fd : FuncData} (F : Fun K "costs_of" "costs_of" s_costs_of f fd) (ma : mg "abs" = none) (mm : mg "max" = none) (ms : mg "sum" = none) :
    FnOk P w K mg base CX0 1 f fd ["disk", "asks", "rows"] (sp_costs_of K) := by
  refine F.ok sc_costs_of (fun vs H Q E h => ?_) (fun cdv A outer s H vs Q E hr h => ?_)
  · obtain ⟨v, u, o, d, l, rs, rfl, _⟩ := h
    rfl
  · obtain ⟨v, u, o, d, l, rs, rfl, hd, ha, ho, hin, hlen, q⟩ := h
    obtain ⟨a, rfl, hT⟩ := dp_disk hd
    obtain ⟨b, xs, rfl, hL, hxl, hat⟩ := dp_asks ha
    obtain ⟨c, zs, rfl, hO, hzs⟩ := dp_list ho
    have hzl : zs.length = rs.length := by rw [dpa_len hzs, List.length_map]
    have nd := sc_costs_of.nd
    refine ⟨_, pss_cons (ps_set (i := 3) nd rfl (.inl rfl) pe_int)
      (pss_cons (ps_set (i := 4) nd rfl (.inl rfl) (pe_ix ix_tup (pv 0) pe_int (fun _ _ => rfl)))
      (pss_cons (ps_set (i := 5) nd rfl (.inl rfl) (pe_lst pa_nil))
      (pss_cons (ps_for PassesOwn.never rfl (pi_list (pv 2)) (pg_tup rfl (pgs_cons (pg_name (i := 6) nd rfl (.inl rfl)) (pgs_cons (pg_name (i := 7) nd rfl (.inl rfl)) pgs_nil)))
        (pss_cons (ps_set (i := 3) nd rfl (.inl rfl) (pe_op op_add (pv 3) (pe_callB call_abs (by rfl) ma (by decide +kernel) (pa_cons (pe_op op_sub (pe_ix ix_tup (pe_ix ix_list (pv 1) (pv 6) (fun _ _ => rfl)) pe_int (fun _ _ => rfl)) (pv 4)) pa_nil))))
        (pss_cons (ps_set (i := 4) nd rfl (.inl rfl) (pe_ix ix_tup (pe_ix ix_list (pv 1) (pv 6) (fun _ _ => rfl)) pe_int (fun _ _ => rfl)))
        (pss_one (ps_expr (pe_bm PySem.F.plainAttrs_list PySem.F.slot_list_append PySem.F.type_list_append mt_append (pv 5) (pa_cons (pe_op op_sub (pv 7) (pe_ix ix_tup (pe_ix ix_list (pv 1) (pv 6) (fun _ _ => rfl)) pe_int (fun _ _ => rfl))) pa_nil)))))))
      (pss_one (ps_ret (pe_tup (pa_cons (pv 3) (pa_cons (pe_callBK (cr_maxD0 rfl (hu_of hr)) rfl mm (by decide +kernel) (pa_cons (pv 5) pa_nil) (pk_cons pe_int pk_nil)) (pa_cons (pe_callB (cr_sum rfl) (by rfl) ms (by decide +kernel) (pa_cons (pv 5) pa_nil)) pa_nil))))))))), ?_⟩
    refine ⟨_, rfl, a, _, 3, _, rfl, rfl, hT, atI_nat (j := 3) rfl, Nat.zero_le _, fun W hW => ?_⟩
    have s0 : Same H (upd H W (.lst [])) := same_new hW
    refine ⟨_, rfl, c, rfl, ⟨_, s0.seq hO⟩, for_list (K := K) (a := c) (xs := zs)
      (fun i σ H' => Same H H' ∧ ∃ v6 v7, σ = [some (.ref a), some (.ref b), some (.ref c), some (.int (wayOf l d.he (rs.take i))), some (.int (hereOf l d.he (rs.take i))), some (.ref W), v6, v7] ∧
        H' W = some (.lst ((waitsOf l (rs.take i)).map V.int)))
      ⟨s0, none, none, rfl, upd_same⟩ (fun i σ H' _ ⟨s1, _⟩ => s1.seq hO) ?_ ?_⟩
    · rintro i y σ H' hi ⟨s1, v6, v7, rfl, eW⟩
      have hlt : i < rs.length := by
        have := (List.getElem?_eq_some_iff.mp hi).1
        omega
      obtain ⟨⟨n, z⟩, hn⟩ : ∃ r, rs[i]? = some r := ⟨_, List.getElem?_eq_getElem hlt⟩
      obtain ⟨v, hv, hvd⟩ := dpa_get (i := i) (d := dRow (n, z)) hzs (by rw [List.getElem?_map, hn]; rfl)
      rw [hi] at hv
      cases hv
      obtain ⟨t, rfl, htT⟩ := dp_tints hvd
      obtain ⟨k, hk⟩ : ∃ k, l[n]? = some k := ⟨_, List.getElem?_eq_getElem (hin (n, z) (List.mem_of_getElem? hn))⟩
      obtain ⟨p, hp, hpT, hpd⟩ := hat n k hk
      have ek : l.getD n (0, 0, 0) = k := getD_of hk
      have hix : ∀ {H'' : Hp}, Same H H'' → SqL K H'' b xs := fun s => s.seq hL
      refine ⟨t, _, rfl, same_sqt s1 htT, rfl, _, _, rfl, _, _, rfl, rfl, ?_⟩
      refine ⟨_, rfl, _, rfl, _, rfl, b, xs, (n : Int), .ref p, rfl, rfl, s1.seq hL, atI_nat hp, p, _, 1, _, rfl, rfl, same_sqt s1 hpT, atI_nat (j := 1) rfl, _, rfl, _, _, rfl, rfl, _, rfl, _, _, rfl, rfl, ?_⟩
      refine ⟨_, rfl, _, rfl, b, xs, (n : Int), .ref p, rfl, rfl, s1.seq hL, atI_nat hp, p, _, 1, _, rfl, rfl, same_sqt s1 hpT, atI_nat (j := 1) rfl, ?_⟩
      refine ⟨_, rfl, .inl ⟨rfl, _, SqL.of eW⟩, _, rfl, _, rfl, _, rfl, b, xs, (n : Int), .ref p, rfl, rfl, s1.seq hL, atI_nat hp, p, _, 0, _, rfl, rfl, same_sqt s1 hpT, atI_nat (j := 0) rfl, _, _, rfl, rfl, W, _, _, rfl, rfl, eW, small1000 (by rw [List.length_map]; unfold waitsOf; rw [List.length_map, List.length_take]; omega), ?_⟩
      refine ⟨same_upd s1 hW, some (.int (n : Int)), some (.int z), ?_, ?_⟩
      · rw [take_more hn, wayOf_snoc, hereOf_snoc]
        show _ = [_, _, _, some (V.int (_ + iabs ((l.getD n (0, 0, 0)).2.1 - _))), some (V.int (l.getD n (0, 0, 0)).2.1), _, _, _]
        rw [ek]
        rfl
      · rw [upd_same, take_more hn]
        unfold waitsOf
        rw [List.map_append, List.map_append]
        show _ = some (HO.lst (_ ++ [V.int (z - (l.getD n (0, 0, 0)).1)]))
        rw [ek]
    · rintro σ H' ⟨s1, v6, v7, rfl, eW⟩
      have e : rs.take zs.length = rs := List.take_of_length_le (by omega)
      rw [e] at eW
      rw [e]
      refine ⟨_, rfl, _, rfl, W, _, rfl, rfl, SqL.of eW, _, rfl, W, _, rfl, SqL.of eW, (by show 3 ≤ sizeLine; decide), fun p hp => ?_⟩
      exact q _ p (same_upd s1 (s1.free hp)) (s1.free hp) upd_same
end
/-- a result (rows, costs), all new: a tuple at p of the list at c and the tuple at t -/
structure ResAt (K : PySem.W.Frag) (H H' : Hp) (p c t : Addr) (xs : List V) (rs : List (Nat × Int)) (k : Int × Int × Int) : Prop where
  same : Same H H'
  p0 : H p = none
  c0 : H c = none
  t0 : H t = none
  hp : H' p = some (.tup [.ref c, .ref t])
  hc : H' c = some (.lst xs)
  ht : H' t = some (.tup ([k.1, k.2.1, k.2.2].map V.int))
  rows : DpAll K (fr H H' c) xs (rs.map dRow)
theorem ResAt.dp {K : PySem.W.Frag} {H H' : Hp} {p c t : Addr} {xs : List V} {rs : List (Nat × Int)} {k : Int × Int × Int} (r : ResAt K H H' p c t xs rs k) : Dp K (nw H H') (.ref p) (dRes rs k) :=
  .tup (.inl (.inl (by rw [nw_none r.p0]; exact r.hp))) (.cons (.lst (.inl (.inl (by rw [nw_none r.c0]; exact r.hc))) (dpa_same fr_nw r.rows)) (.cons (dp_tints_of (.inl (.inl (by rw [nw_none r.t0]; exact r.ht)))) .nil))
/-! ### need_rule, by_rule -/
open LamX NdefX
def RLS : List Rule := [.first, .near, .soon, .sweep, .loop]
def rulesV : List V := RLS.map fun r => V.str (ruleS r)
abbrev s_need_rule : Stmt := top 24
def sp_need_rule (K : PySem.W.Frag) : Sp := fun vs H Q _ => ∃ r : Rule, vs = [.str (ruleS r)] ∧ Q .non H
theorem sc_need_rule : FnScope ["rule"] ["rule"] (defScope s_need_rule) := ⟨rfl, rfl, rfl, by decide +kernel, rfl, by decide +kernel, by decide +kernel⟩
abbrev s_by_rule : Stmt := top 27
def sp_by_rule (K : PySem.W.Frag) (T : List (Addr × Str)) : Sp := fun vs H Q _ => ∃ (v u : V) (d : Disk) (l : List Ask) (r : Rule), vs = [v, u, .str (ruleS r)] ∧ Dp K H v (dDisk d) ∧ Dp K H u (dAsks l) ∧ GoodDisk d ∧ GoodAsks d l ∧ Tabs T H ∧
  ∀ (H' : Hp) (p c t : Addr) (xs : List V), Tabs T H' → ResAt K (ntH H) H' p c t xs (ruledR d l r) (costsOf d l (ruledR d l r)) → Q (.ref p) H'
theorem sc_by_rule : FnScope ["disk", "asks", "rule", "rows"] ["disk", "asks", "rule"] (defScope s_by_rule) := ⟨rfl, rfl, rfl, by decide +kernel, rfl, by decide +kernel, by decide +kernel⟩
theorem runS_lt (d : Disk) (l : List Ask) (r : Rule) (st : ArmS) (h : ∀ n ∈ st.left, n < l.length) : ∀ k, ∀ n ∈ (runS d l r k st).left, n < l.length
  | 0 => h
  | k + 1 => fun n hn => runS_lt d l r st h k n (List.mem_of_mem_erase hn)
theorem rowsS_lt (d : Disk) (l : List Ask) (r : Rule) (st : ArmS) (h : ∀ n ∈ st.left, n < l.length) : ∀ k, k ≤ st.left.length → ∀ x ∈ rowsS d l r st k, x.1 < l.length
  | 0, _ => fun x hx => by cases hx
  | k + 1, hk => fun x hx => by
    rcases List.mem_append.mp hx with hx | hx
    · exact rowsS_lt d l r st h k (by omega) x hx
    · rw [List.mem_singleton.mp hx]
      have hl := runS_left d l r st k (by omega)
      have hne : (runS d l r k st).left ≠ [] := fun e => by rw [e] at hl; simp at hl; omega
      exact runS_lt d l r st h k _ (nextN_mem hne)
theorem ruledR_lt (d : Disk) (l : List Ask) (r : Rule) : ∀ x ∈ ruledR d l r, x.1 < l.length := rowsS_lt d l r (armS0 d l) (fun n hn => List.mem_range.mp hn) l.length (by show _ ≤ (List.range l.length).length; rw [List.length_range]; exact Nat.le_refl _)
theorem ruledR_len (d : Disk) (l : List Ask) (r : Rule) : (ruledR d l r).length = l.length := rowsS_len d l r _ _
theorem ntH_idem {H H1 : Hp} (s : Same (ntH H) H1) : Same (ntH H) (ntH H1) := fun b o h => ntH_some.mpr ⟨s b o h, (ntH_some.mp h).2⟩
section
variable {P : Program} {w : World} {K : PySem.W.Frag} {mg : Str → Option Value} {base : Heap}
theorem ok_need_rule {f aR : Addr} {fd : FuncData} (F : Fun K "need_rule" "need_rule" s_need_rule f fd) (mc_RULES : mg "RULES" = some (.ref aR)) (hR : ∀ H, SqT K H aR rulesV) : FnOk P w K mg base CX0 1 f fd ["rule"] (sp_need_rule K) := by
  refine F.ok sc_need_rule (fun vs H Q E h => ?_) (fun cdv A outer s H vs Q E hr h => ?_)
  · obtain ⟨r, rfl, _⟩ := h
    rfl
  · obtain ⟨r, rfl, q⟩ := h
    have nd := sc_need_rule.nd
    refine ⟨_, (pss_one (ps_if (pt_cmpR (r := rIn K true) op_notIn_seq (pv 0) (pe_glob (v := .ref aR) rfl mc_RULES rfl) (by rfl)) (pss_one ps_never) pss_nil)), ?_⟩
    have e : inV (.str (ruleS r)) rulesV = true := by cases r <;> decide +kernel
    refine ⟨_, rfl, aR, rulesV, rfl, .inr (hR H), rfl, by decide +kernel, _, rfl, ?_⟩
    rw [e]
    exact iteF q
theorem ok_by_rule {f f1 f2 f3 f4 f5 : Addr} {fd fd1 fd2 fd3 fd4 fd5 : FuncData} {T : List (Addr × Str)} (F : Fun K "by_rule" "by_rule" s_by_rule f fd)
    (G_need_disk : FnOk P w K mg base CX0 1 f1 fd1 ["disk"] (sp_need_disk K)) (C_need_disk : Cal K mg "need_disk" f1 fd1 ["disk"])
    (G_need_asks : FnOk P w K mg base CX0 1 f2 fd2 ["disk", "asks"] (sp_need_asks K)) (C_need_asks : Cal K mg "need_asks" f2 fd2 ["disk", "asks"])
    (G_need_rule : FnOk P w K mg base CX0 1 f3 fd3 ["rule"] (sp_need_rule K)) (C_need_rule : Cal K mg "need_rule" f3 fd3 ["rule"])
    (G_rows_by : FnOk P w K mg base CX0 9 f4 fd4 ["disk", "asks", "rule"] (sp_rows_by K T)) (C_rows_by : Cal K mg "rows_by" f4 fd4 ["disk", "asks", "rule"])
    (G_costs_of : FnOk P w K mg base CX0 1 f5 fd5 ["disk", "asks", "rows"] (sp_costs_of K)) (C_costs_of : Cal K mg "costs_of" f5 fd5 ["disk", "asks", "rows"]) : FnOk P w K mg base CX0 10 f fd ["disk", "asks", "rule"] (sp_by_rule K T) := by
  refine F.ok sc_by_rule (fun vs H Q E h => ?_) (fun cdv A outer s H vs Q E hr h => ?_)
  · obtain ⟨v, u, d, l, r, rfl, _⟩ := h
    rfl
  · obtain ⟨v, u, d, l, r, rfl, hd, ha, gd, ga, hT, q⟩ := h
    have nd := sc_by_rule.nd
    have hr_need_disk : Room 1 _ := hr.mono (by decide)
    have hr_need_asks : Room 1 _ := hr.mono (by decide)
    have hr_need_rule : Room 1 _ := hr.mono (by decide)
    have hr_rows_by : Room 9 _ := hr
    have hr_costs_of : Room 1 _ := hr.mono (by decide)
    have h40 := ga.len
    refine ⟨_, (pss_cons (ps_expr (pe_call G_need_disk hr_need_disk rfl C_need_disk.m C_need_disk.k C_need_disk.b .nil pass0 (pa_cons (pv 0) pa_nil)))
      (pss_cons (ps_expr (pe_call G_need_asks hr_need_asks rfl C_need_asks.m C_need_asks.k C_need_asks.b .nil pass0 (pa_cons (pv 0) (pa_cons (pv 1) pa_nil))))
      (pss_cons (ps_expr (pe_call G_need_rule hr_need_rule rfl C_need_rule.m C_need_rule.k C_need_rule.b .nil pass0 (pa_cons (pv 2) pa_nil)))
      (pss_cons (ps_set (i := 3) nd rfl (.inl rfl) (pe_call G_rows_by hr_rows_by rfl C_rows_by.m C_rows_by.k C_rows_by.b .nil pass0 (pa_cons (pv 0) (pa_cons (pv 1) (pa_cons (pv 2) pa_nil)))))
      (pss_one (ps_ret (pe_tup (pa_cons (pv 3) (pa_cons (pe_call G_costs_of hr_costs_of rfl C_costs_of.m C_costs_of.k C_costs_of.b .nil pass0 (pa_cons (pv 0) (pa_cons (pv 1) (pa_cons (pv 3) pa_nil)))) pa_nil))))))))), ?_⟩
    refine ⟨_, rfl, v, d, rfl, hd, gd, ?_⟩
    refine ⟨_, rfl, _, rfl, v, u, d, l, rfl, hd, ha, ga, ?_⟩
    refine ⟨_, rfl, r, rfl, ?_⟩
    refine ⟨_, rfl, _, rfl, _, rfl, v, u, d, l, r, rfl, hd, ha, gd, h40, hT, fun H2 c xs s2 hT2 gc hc hrows => ?_⟩
    have hd2 : Dp K H2 v (dDisk d) := dp_same s2 (dp_nt hd)
    have ha2 : Dp K H2 u (dAsks l) := dp_same s2 (dp_nt ha)
    refine ⟨_, rfl, _, rfl, _, rfl, _, rfl, v, u, .ref c, d, l, ruledR d l r, rfl, hd2, ha2, .lst (.inl (.inl hc)) (dpa_same fr_sub hrows), ruledR_lt d l r, by rw [ruledR_len]; omega, fun H3 t s3 ht0 ht => ?_⟩
    refine ⟨(by show 2 ≤ sizeLine; decide), fun p hp => ?_⟩
    have s4 : Same H3 (upd H3 p (.tup [.ref c, .ref t])) := same_new hp
    have s23 := s2.trans s3
    refine q _ p c t xs ((hT2.ext s3).ext s4) ⟨s23.trans s4, s23.free hp, gc, s2.free ht0, upd_same, s4 _ _ (s3 _ _ hc), s4 _ _ ht, ?_⟩
    exact dpa_same (fr_step (sb_of (s3.trans s4))) hrows
end
end Ag

namespace Ag
open PySem PySem.Spec PyProof.Rows L2
/-! ### held -/
open LamX NdefX
def heldRow (d : Disk) (l : List Ask) (r : Rule) : PyData := .tuple [.str (ruleS r), .int (costsOf d l (ruledR d l r)).1, .int (costsOf d l (ruledR d l r)).2.1, .int (costsOf d l (ruledR d l r)).2.2]
def heldV (d : Disk) (l : List Ask) (r : Rule) : List V := [.str (ruleS r), .int (costsOf d l (ruledR d l r)).1, .int (costsOf d l (ruledR d l r)).2.1, .int (costsOf d l (ruledR d l r)).2.2]
def HeldV (d : Disk) (l : List Ask) (G H : Hp) (x : V) (r : Rule) : Prop := ∃ t, x = .ref t ∧ H t = some (.tup (heldV d l r)) ∧ G t = none
theorem heldV_dp {K : PySem.W.Frag} {d : Disk} {l : List Ask} {G H : Hp} {D : Addr} (hD : ∃ ys, H D = some (.lst ys)) : ∀ {xs : List V} {rs : List Rule}, All2 (HeldV d l G H) xs rs → DpAll K (fr G H D) xs (rs.map (heldRow d l))
  | [], [], _ => .nil
  | x :: xs, r :: rs, h => by
    obtain ⟨⟨t, rfl, ht, gt⟩, h2⟩ := h
    obtain ⟨ys, hD'⟩ := hD
    exact .cons (.tup (SqT.of (fr_at (ne_of ht hD' (by intro q; cases q)) gt ht)) (.cons (.str _) (.cons (.int _) (.cons (.int _) (.cons (.int _) .nil))))) (heldV_dp ⟨ys, hD'⟩ h2)
  | [], _ :: _, h => h.elim
  | _ :: _, [], h => h.elim
abbrev s_held : Stmt := top 35
def sp_held (K : PySem.W.Frag) (T : List (Addr × Str)) : Sp := fun vs H Q _ => ∃ (v u : V) (d : Disk) (l : List Ask), vs = [v, u] ∧ Dp K H v (dDisk d) ∧ Dp K H u (dAsks l) ∧ GoodDisk d ∧ GoodAsks d l ∧ Tabs T H ∧
  ∀ (H' : Hp) (D : Addr) (xs : List V), Same (ntH H) H' → Tabs T H' → ntH H D = none → H' D = some (.lst xs) → DpAll K (fr (ntH H) H' D) xs (RLS.map (heldRow d l)) → Q (.ref D) H'
theorem sc_held : FnScope ["disk", "asks", "rule"] ["disk", "asks"] (defScope s_held) := ⟨rfl, rfl, rfl, by decide +kernel, rfl, by decide +kernel, by decide +kernel⟩
section
variable {P : Program} {w : World} {K : PySem.W.Frag} {mg : Str → Option Value} {base : Heap}
theorem ok_held {f f1 f2 f4 f5 aR : Addr} {fd fd1 fd2 fd4 fd5 : FuncData} {T : List (Addr × Str)} (F : Fun K "held" "held" s_held f fd)
    (G_need_disk : FnOk P w K mg base CX0 1 f1 fd1 ["disk"] (sp_need_disk K)) (C_need_disk : Cal K mg "need_disk" f1 fd1 ["disk"])
    (G_need_asks : FnOk P w K mg base CX0 1 f2 fd2 ["disk", "asks"] (sp_need_asks K)) (C_need_asks : Cal K mg "need_asks" f2 fd2 ["disk", "asks"])
    (G_rows_by : FnOk P w K mg base CX0 9 f4 fd4 ["disk", "asks", "rule"] (sp_rows_by K T)) (C_rows_by : Cal K mg "rows_by" f4 fd4 ["disk", "asks", "rule"])
    (G_costs_of : FnOk P w K mg base CX0 1 f5 fd5 ["disk", "asks", "rows"] (sp_costs_of K)) (C_costs_of : Cal K mg "costs_of" f5 fd5 ["disk", "asks", "rows"])
    (mc_RULES : mg "RULES" = some (.ref aR)) (hR : ∀ H, SqT K H aR rulesV) : FnOk P w K mg base CX0 10 f fd ["disk", "asks"] (sp_held K T) := by
  refine F.ok sc_held (fun vs H Q E h => ?_) (fun cdv A outer s H vs Q E hr h => ?_)
  · obtain ⟨v, u, d, l, rfl, _⟩ := h
    rfl
  · obtain ⟨v, u, d, l, rfl, hd, ha, gd, ga, hT, q⟩ := h
    have nd := sc_held.nd
    have hr_need_disk : Room 1 _ := hr.mono (by decide)
    have hr_need_asks : Room 1 _ := hr.mono (by decide)
    have hr_rows_by : Room 9 _ := hr
    have hr_costs_of : Room 1 _ := hr.mono (by decide)
    have h40 := ga.len
    refine ⟨_, (pss_cons (ps_expr (pe_call G_need_disk hr_need_disk rfl C_need_disk.m C_need_disk.k C_need_disk.b .nil pass0 (pa_cons (pv 0) pa_nil)))
      (pss_cons (ps_expr (pe_call G_need_asks hr_need_asks rfl C_need_asks.m C_need_asks.k C_need_asks.b .nil pass0 (pa_cons (pv 0) (pa_cons (pv 1) pa_nil))))
      (pss_one (ps_ret (pe_lc (own := [("rule", 2)]) (g := (gName 2)) (tt := tYes) rfl nd (pi_tup (pe_glob (v := .ref aR) rfl mc_RULES rfl)) (blkOk_by (own := [("rule", 2)]) (N := ["disk", "asks", "rule"]) (sc := defScope s_held) (by decide +kernel)) (fun _ _ _ _ _ => (pg_name (i := 2) nd rfl (.inl rfl))) (fun _ _ _ _ _ => pts_nil) (fun _ _ _ _ _ => (pe_op (r := rCatT K) op_catT (pe_tup (pa_cons (pv 2) pa_nil)) (pe_call G_costs_of hr_costs_of rfl C_costs_of.m C_costs_of.k C_costs_of.b .nil pass0 (pa_cons (pv 0) (pa_cons (pv 1) (pa_cons (pe_call G_rows_by hr_rows_by rfl C_rows_by.m C_rows_by.k C_rows_by.b .nil pass0 (pa_cons (pv 0) (pa_cons (pv 1) (pa_cons (pv 2) pa_nil)))) pa_nil))))))))))), ?_⟩
    refine ⟨_, rfl, v, d, rfl, hd, gd, ?_⟩
    refine ⟨_, rfl, _, rfl, v, u, d, l, rfl, hd, ha, ga, ?_⟩
    refine ⟨aR, rfl, ⟨_, hR _⟩, fun D hD => ?_⟩
    have gD : ntH H D = none := ntH_none hD
    have s1 := same_new (o := .lst []) hD
    have hlen : rulesV.length = 5 := rfl
    refine lc_tup (K := K) (a := aR) (xs := rulesV) (fun i H' => Same (ntH H) H' ∧ Tabs T H' ∧ ∃ ts : List V, H' D = some (.lst ts) ∧ ts.length = i ∧ All2 (HeldV d l (ntH H) H') ts (RLS.take i)) ⟨(ntH_sub H).trans s1, hT.ext s1, [], upd_same, rfl, trivial⟩ (fun i H' _ _ => hR H') ?_ ?_
    · rintro i x H2 hi ⟨s2, hT2, ts, eD, hts, hall⟩
      obtain ⟨r, hr2, rfl⟩ : ∃ r, RLS[i]? = some r ∧ x = V.str (ruleS r) := by
        unfold rulesV at hi
        rw [List.getElem?_map] at hi
        cases e : RLS[i]? with
        | none => rw [e] at hi; cases hi
        | some r => rw [e] at hi; exact ⟨r, rfl, (Option.some.inj hi).symm⟩
      have hi5 : i < 5 := (List.getElem?_eq_some_iff.mp hr2).1
      have hd2 : Dp K H2 v (dDisk d) := dp_same s2 (dp_nt hd)
      have ha2 : Dp K H2 u (dAsks l) := dp_same s2 (dp_nt ha)
      refine ⟨rfl, _, rfl, (by show 1 ≤ sizeLine; decide), fun t1 ht1 => ?_⟩
      have s3 := same_new (o := HO.tup [V.str (ruleS r)]) ht1
      have e1 : upd H2 t1 (.tup [V.str (ruleS r)]) t1 = some (.tup [V.str (ruleS r)]) := upd_same
      have eD1 := s3 _ _ eD
      have hT3 := hT2.ext s3
      have hd3 := dp_same s3 hd2
      have ha3 := dp_same s3 ha2
      have s03 := s2.trans s3
      revert e1 eD1 hT3 hd3 ha3 s03 s3
      generalize upd H2 t1 (.tup [V.str (ruleS r)]) = H3
      intro s3 e1 eD1 hT3 hd3 ha3 s03
      refine ⟨_, rfl, _, rfl, _, rfl, _, rfl, _, rfl, v, u, d, l, r, rfl, hd3, ha3, gd, h40, hT3, fun H4 c xs s4 hT4 gc hc hrows => ?_⟩
      have n4 : ∀ {b : Addr} {o : HO}, H3 b = some o → (∀ ps, o ≠ .tbl ps) → H4 b = some o := fun h n => s4 _ _ (ntH_some.mpr ⟨h, n⟩)
      have s34 : Same (ntH H) H4 := fun b o h => s4 b o (ntH_some.mpr ⟨s03 b o h, (ntH_some.mp h).2⟩)
      refine ⟨v, u, .ref c, d, l, ruledR d l r, rfl, dp_same s4 (dp_nt hd3), dp_same s4 (dp_nt ha3), .lst (.inl (.inl hc)) (dpa_same fr_sub hrows), ruledR_lt d l r, by rw [ruledR_len]; omega, fun H5 t s5 ht0 ht => ?_⟩
      have e15 : H5 t1 = some (.tup [V.str (ruleS r)]) := s5 _ _ (n4 e1 (by intro _ q; cases q))
      have eD5 : H5 D = some (.lst ts) := s5 _ _ (n4 eD1 (by intro _ q; cases q))
      have hT5 := hT4.ext s5
      refine ⟨t1, t, _, _, rfl, rfl, SqT.of e15, SqT.of ht, by simp, by show 1 + 3 ≤ sizeLine; decide, (fun z => absurd z (by simp)), fun _ p hp => ?_⟩
      have s6 := same_new (o := HO.tup ([V.str (ruleS r)] ++ [(costsOf d l (ruledR d l r)).1, (costsOf d l (ruledR d l r)).2.1, (costsOf d l (ruledR d l r)).2.2].map V.int)) hp
      have s06 : Same (ntH H) (upd H5 p (HO.tup ([V.str (ruleS r)] ++ [(costsOf d l (ruledR d l r)).1, (costsOf d l (ruledR d l r)).2.1, (costsOf d l (ruledR d l r)).2.2].map V.int))) := s34.trans (s5.trans s6)
      have eD6 := s6 _ _ eD5
      have npD : p ≠ D := fun e => by rw [e, eD5] at hp; cases hp
      have gp : ntH H p = none := (s34.trans s5).free hp
      refine ⟨ts, eD6, small1000 (by omega), same_upd s06 gD, tabs_upd (hT5.ext s6) eD6 (by intro _ q; cases q) (by intro _ q; cases q), ts ++ [.ref p], upd_same, by rw [List.length_append, hts]; rfl, ?_⟩
      rw [take_more hr2]
      refine all2_snoc ⟨p, rfl, by rw [upd_ne npD, upd_same]; rfl, gp⟩ (all2_mono (fun y rr hy => ?_) hall)
      obtain ⟨t', e, h1, h2⟩ := hy
      have n3 : t' ≠ D := ne_of h1 eD (by intro q; cases q)
      exact ⟨t', e, by rw [upd_ne n3]; exact s6 _ _ (s5 _ _ (n4 (s3 _ _ h1) (by intro _ q; cases q))), h2⟩
    · rintro H2 ⟨s2, hT2, ts, eD, hts, hall⟩
      exact q H2 D ts s2 hT2 gD eD (heldV_dp ⟨_, eD⟩ hall)
end
end Ag

namespace Ag
open PySem PySem.Spec PyProof.Rows L2
/-! ### least_sum -/
abbrev s_least_sum : Stmt := top 34
def sp_least_sum (K : PySem.W.Frag) : Sp := fun vs H Q _ => ∃ (v u : V) (d : Disk) (l : List Ask), vs = [v, u] ∧ Dp K H v (dDisk d) ∧ Dp K H u (dAsks l) ∧ GoodDisk d ∧ GoodAsks d l ∧ l.length ≤ 6 ∧
  ∀ (H' : Hp) (p o : Addr) (os : List Nat), Same H H' → H p = none → H o = none → H' p = some (.tup [.int (allOf d l os), .ref o]) → H' o = some (.lst ((nints os).map V.int)) → IsOrd l.length l.length os → dSum d l os = leastOf d l → Q (.ref p) H'
theorem sc_least_sum : FnScope ["disk", "asks", "level", "turn", "longer", "now", "here", "number", "waits", "order", "one", "done", "more"] ["disk", "asks"] (defScope s_least_sum) := ⟨rfl, rfl, rfl, by decide +kernel, rfl, by decide +kernel, by decide +kernel⟩
section
variable {P : Program} {w : World} {K : PySem.W.Frag} {mg : Str → Option Value} {base : Heap}
set_option maxHeartbeats 16000000 in
theorem ok_least_sum {f f1 f2 f3 f4 : Addr} {fd fd1 fd2 fd3 fd4 : FuncData} (F : Fun K "least_sum" "least_sum" s_least_sum f fd)
    (G_need_disk : FnOk P w K mg base CX0 1 f1 fd1 ["disk"] (sp_need_disk K)) (C_need_disk : Cal K mg "need_disk" f1 fd1 ["disk"])
    (G_need_asks : FnOk P w K mg base CX0 1 f2 fd2 ["disk", "asks"] (sp_need_asks K)) (C_need_asks : Cal K mg "need_asks" f2 fd2 ["disk", "asks"])
    (G_need_few : FnOk P w K mg base CX0 1 f3 fd3 ["asks"] (sp_need_few K)) (C_need_few : Cal K mg "need_few" f3 fd3 ["asks"])
    (G_served : FnOk P w K mg base CX0 1 f4 fd4 ["disk", "now", "here", "ask"] (sp_served K)) (C_served : Cal K mg "served" f4 fd4 ["disk", "now", "here", "ask"])
    (mb_len : mg "len" = none) (mb_range : mg "range" = none) (mb_min : mg "min" = none) : FnOk P w K mg base CX0 2 f fd ["disk", "asks"] (sp_least_sum K) := by
  refine F.ok sc_least_sum (fun vs H Q E h => ?_) (fun cdv A outer s H vs Q E hr h => ?_)
  · obtain ⟨v, u, d, l, rfl, _⟩ := h
    rfl
  · obtain ⟨v, u, d, l, rfl, hd, ha, g, ga, hl6, q⟩ := h
    have nd := sc_least_sum.nd
    have hr_need_disk : Room 1 _ := hr
    have hr_need_asks : Room 1 _ := hr
    have hr_need_few : Room 1 _ := hr
    have hr_served : Room 1 _ := hr
    have hd0 := hd
    have ha0 := ha
    obtain ⟨a, rfl, hT⟩ := dp_disk hd
    obtain ⟨b, xs, rfl, hL, hxl, hat⟩ := dp_asks ha
    refine ⟨_, (pss_cons (ps_expr (pe_call G_need_disk hr_need_disk rfl C_need_disk.m C_need_disk.k C_need_disk.b .nil pass0 (pa_cons (pv 0) pa_nil)))
      (pss_cons (ps_expr (pe_call G_need_asks hr_need_asks rfl C_need_asks.m C_need_asks.k C_need_asks.b .nil pass0 (pa_cons (pv 0) (pa_cons (pv 1) pa_nil))))
      (pss_cons (ps_expr (pe_call G_need_few hr_need_few rfl C_need_few.m C_need_few.k C_need_few.b .nil pass0 (pa_cons (pv 1) pa_nil)))
      (pss_cons (ps_set (i := 2) nd rfl (.inl rfl) (pe_lst (pa_cons (pe_tup (pa_cons (pe_tup (pa_cons pe_int (pa_cons (pe_lst pa_nil) pa_nil))) (pa_cons pe_int (pa_cons (pe_ix (r := rIxT K) ix_tup (pv 0) pe_int (fun _ _ => rfl)) pa_nil)))) pa_nil)))
      (pss_cons (ps_for PassesOwn.never rfl (pi_range1 rfl mb_range (pa_cons (pe_callB call_len_seq (by rfl) mb_len PySem.boot_len (pa_cons (pv 1) pa_nil)) pa_nil)) (pg_name (i := 3) nd rfl (.inl rfl))
        (pss_cons (ps_set (i := 4) nd rfl (.inl rfl) (pe_lst pa_nil))
      (pss_cons (ps_for PassesOwn.never rfl (pi_list (pv 2)) (pg_tup rfl (pgs_cons (pg_tup rfl (pgs_cons (pg_name (i := 8) nd rfl (.inl rfl)) (pgs_cons (pg_name (i := 9) nd rfl (.inl rfl)) pgs_nil))) (pgs_cons (pg_name (i := 5) nd rfl (.inl rfl)) (pgs_cons (pg_name (i := 6) nd rfl (.inl rfl)) pgs_nil))))
        (pss_one (ps_for PassesOwn.never rfl (pi_range1 rfl mb_range (pa_cons (pe_callB call_len_seq (by rfl) mb_len PySem.boot_len (pa_cons (pv 1) pa_nil)) pa_nil)) (pg_name (i := 7) nd rfl (.inl rfl))
        (pss_one (ps_if (pt_cmpR op_notIn_seq (pv 7) (pv 9) (by rfl)) (pss_cons (ps_set (i := 11) nd rfl (.inl rfl) (pe_call G_served hr_served rfl C_served.m C_served.k C_served.b .nil pass0 (pa_cons (pv 0) (pa_cons (pv 5) (pa_cons (pv 6) (pa_cons (pe_ix (r := rIxL K) ix_list (pv 1) (pv 7) (fun _ _ => rfl)) pa_nil))))))
      (pss_cons (ps_set (i := 12) nd rfl (.inl rfl) (pe_tup (pa_cons (pe_op op_sub (pe_op op_add (pv 8) (pv 11)) (pe_ix (r := rIxT K) ix_tup (pe_ix (r := rIxL K) ix_list (pv 1) (pv 7) (fun _ _ => rfl)) pe_int (fun _ _ => rfl))) (pa_cons (pe_op op_cat (pv 9) (pe_lst (pa_cons (pv 7) pa_nil))) pa_nil))))
      (pss_one (ps_expr (pe_bm PySem.F.plainAttrs_list PySem.F.slot_list_append PySem.F.type_list_append mt_append (pv 4) (pa_cons (pe_tup (pa_cons (pv 12) (pa_cons (pv 11) (pa_cons (pe_ix (r := rIxT K) ix_tup (pe_ix (r := rIxL K) ix_list (pv 1) (pv 7) (fun _ _ => rfl)) pe_int (fun _ _ => rfl)) pa_nil)))) pa_nil)))))) pss_nil)))))
      (pss_one (ps_set (i := 2) nd rfl (.inl rfl) (pv 4))))))
      (pss_one (ps_ret (pe_callB (cr_minD rfl) (by rfl) mb_min (by decide +kernel) (pa_cons (pe_lc (own := [("one", 10)]) (g := (gName 10)) (tt := tYes) rfl nd (pi_list (pv 2)) (blkOk_by (own := [("one", 10)]) (N := ["disk", "asks", "level", "turn", "longer", "now", "here", "number", "waits", "order", "one", "done", "more"]) (sc := defScope s_least_sum) (by decide +kernel)) (fun _ _ _ _ _ => (pg_name (i := 10) nd rfl (.inl rfl))) (fun _ _ _ _ _ => pts_nil) (fun _ _ _ _ _ => (pe_ix (r := rIxT K) ix_tup (pv 10) pe_int (fun _ _ => rfl)))) pa_nil))))))))), ?_⟩
    refine ⟨_, rfl, .ref a, d, rfl, hd0, g, ?_⟩
    refine ⟨_, rfl, _, rfl, .ref a, .ref b, d, l, rfl, hd0, ha0, ga, ?_⟩
    refine ⟨_, rfl, .ref b, l, rfl, ha0, hl6, ?_⟩
    -- the first level
    refine ⟨Nat.zero_le _, fun o0 ho0 => ⟨(by show 2 ≤ sizeLine; decide), fun m0 hm0 => ?_⟩⟩
    have s1 := same_new (o := .lst []) ho0
    have s2 := same_new (o := HO.tup [.int 0, .ref o0]) hm0
    refine ⟨_, rfl, a, _, 3, _, rfl, rfl, same_sqt (s1.trans s2) hT, atI_nat (j := 3) rfl, (by show 3 ≤ sizeLine; decide), fun t0 ht0 => ?_⟩
    have s3 := same_new (o := HO.tup [.ref m0, .int 0, .int d.he]) ht0
    refine ⟨(by show 1 ≤ sizeLine; decide), fun L0 hL0 => ?_⟩
    have s4 := same_new (o := .lst [.ref t0]) hL0
    have s14 := s1.trans (s2.trans (s3.trans s4))
    have hm0' := s1.free hm0
    have ht0' := s1.free (s2.free ht0)
    have hL0' := s1.free (s2.free (s3.free hL0))
    refine ⟨_, rfl, b, xs, rfl, .inl (s14.seq hL), _, rfl, by rw [hxl]; omega, by rw [hxl]; omega, ?_⟩
    refine for_range (lo := 0) (n := xs.length) (fun k σ H' => Same H H' ∧ ∃ (Lv : Addr) (vs : List V) (v3 v4 v5 v6 v7 v8 v9 v10 v11 v12 : Option V), σ = [some (.ref a), some (.ref b), some (.ref Lv), v3, v4, v5, v6, v7, v8, v9, v10, v11, v12] ∧ H Lv = none ∧ H' Lv = some (.lst vs) ∧ All2 (LvlAt d l (nw H H')) vs (ordersK l.length k))
      ⟨s14, L0, [.ref t0], none, none, none, none, none, none, none, none, none, none, rfl, hL0', upd_same, ⟨t0, m0, rfl, ?_, m0, o0, rfl, ?_, ?_⟩, trivial⟩ ?_ ?_
    · rw [nw_none ht0']
      exact s4 _ _ upd_same
    · rw [nw_none hm0']
      exact s4 _ _ (s3 _ _ upd_same)
    · rw [nw_none ho0]
      exact s4 _ _ (s3 _ _ (s2 _ _ upd_same))
    · -- one level more
      rintro k σ H1 hk ⟨sH, Lv, vs, v3, v4, v5, v6, v7, v8, v9, v10, v11, v12, rfl, hLv, eLv, hall⟩
      refine ⟨Nat.zero_le _, fun Lg hLg => ?_⟩
      have hLgH := sH.free hLg
      have sg := same_new (o := .lst []) hLg
      have nVG : Lv ≠ Lg := ne_of_none eLv hLg
      have hvl : vs.length = (ordersK l.length k).length := all2_len hall
      refine ⟨_, rfl, Lv, rfl, ⟨_, SqL.of (sg _ _ eLv)⟩, for_list (K := K) (a := Lv) (xs := vs)
        (fun j σ H' => Same H H' ∧ Same H1 H' ∧ ∃ (us : List V) (v3 v5 v6 v7 v8 v9 v10 v11 v12 : Option V), σ = [some (.ref a), some (.ref b), some (.ref Lv), v3, some (.ref Lg), v5, v6, v7, v8, v9, v10, v11, v12] ∧ H' Lg = some (.lst us) ∧
          All2 (LvlAt d l (fr H H' Lg)) us (((ordersK l.length k).take j).flatMap (moreOf l.length))) ⟨sH.trans sg, sg, [], _, _, _, _, _, _, _, _, _, rfl, upd_same, trivial⟩ (fun j σ H' _ ⟨_, s, _⟩ => SqL.of (s _ _ eLv)) ?_ ?_⟩
      · rintro j y σ H2 hj ⟨sH2, s12, us, v3, v5, v6, v7, v8, v9, v10, v11, v12, rfl, eLg, hus⟩
        obtain ⟨os, hos, t, m, rfl, eT, m', o, em', eM, eO⟩ := all2_at hall hj
        cases em'
        have hio := ordersK_is (List.mem_of_getElem? hos)
        have eT2 := s12 _ _ (nw_sub _ _ eT)
        have eM2 := s12 _ _ (nw_sub _ _ eM)
        have eO2 := s12 _ _ (nw_sub _ _ eO)
        -- its parts
        refine ⟨t, _, rfl, SqT.of eT2, rfl, .ref m, _, rfl, m, _, rfl, SqT.of eM2, rfl, _, _, rfl, _, _, rfl, rfl, _, _, rfl, _, _, rfl, rfl, ?_⟩
        refine ⟨_, rfl, b, xs, rfl, .inl (sH2.seq hL), _, rfl, by rw [hxl]; omega, by rw [hxl]; omega, ?_⟩
        refine for_range (lo := 0) (n := xs.length) (fun i σ H' => Same H H' ∧ Same H1 H' ∧ ∃ (us' : List V) (v7 v10 v11 v12 : Option V), σ = [some (.ref a), some (.ref b), some (.ref Lv), v3, some (.ref Lg), some (.int (endOf d l 0 d.he os).1), some (.int (endOf d l 0 d.he os).2), v7, some (.int (allOf d l os)), some (.ref o), v10, v11, v12] ∧
            H' Lg = some (.lst us') ∧ All2 (LvlAt d l (fr H H' Lg)) us' (((ordersK l.length k).take j).flatMap (moreOf l.length) ++ moreTo i os)) ⟨sH2, s12, us, _, _, _, _, rfl, eLg, ?_⟩ ?_ ?_
        · show All2 _ us (_ ++ [])
          rw [List.append_nil]
          exact hus
        · rintro i σ H3 hi ⟨sH3, s13, us', v7, v10, v11, v12, rfl, eLg3, hus'⟩
          have hil : i < l.length := by omega
          obtain ⟨ask, hask⟩ : ∃ ask, l[i]? = some ask := ⟨_, List.getElem?_eq_getElem hil⟩
          obtain ⟨p, hp, hpT, hpd⟩ := hat i ask hask
          have ek : l.getD i (0, 0, 0) = ask := getD_of hask
          have eO3 := s13 _ _ (nw_sub _ _ eO)
          have hlen1 : ((ordersK l.length k).take j).flatMap (moreOf l.length) ++ moreTo i os = ((ordersK l.length k).take j).flatMap (moreOf l.length) ++ moreTo i os := rfl
          have hul : us'.length < 1000000 := by
            rw [all2_len hus', List.length_append]
            have h1 := flat_len (moreOf l.length) l.length ((ordersK l.length k).take j) fun x _ => moreOf_len l.length x
            have h2 : ((ordersK l.length k).take j).length ≤ 46656 := by
              rw [List.length_take]
              have := ordersK_len6 hl6 (show k ≤ 6 by omega)
              omega
            have h3 : (moreTo i os).length ≤ 6 := by
              have := moreOf_len i os
              show (moreOf i os).length ≤ 6
              omega
            have h4 : ((ordersK l.length k).take j).length * l.length ≤ 46656 * 6 := Nat.mul_le_mul h2 hl6
            omega
          refine ⟨_, rfl, _, rfl, o, _, rfl, .inl (SqL.of eO3), rfl, flat_nints os, _, rfl, ?_⟩
          refine ite_eqb (c := decide (i ∉ os)) ?_ ?_
          · show (!inV (.int (0 + (i : Int))) ((nints os).map V.int)) = decide (i ∉ os)
            rw [Int.zero_add, inV_nints]
            simp
          refine if2d (fun hni => ?_) (fun hin => ?_)
          · refine ⟨_, rfl, _, rfl, _, rfl, _, rfl, _, rfl, b, xs, _, .ref p, rfl, rfl, sH3.seq hL, at_of (j := i) (by omega) hp, ?_⟩
            refine ⟨.ref a, .ref p, d, _, _, ask, rfl, dp_same sH3 hd0, dp_same sH3 hpd, g, ?_⟩
            refine ⟨_, rfl, _, rfl, _, _, rfl, rfl, _, rfl, _, rfl, b, xs, _, .ref p, rfl, rfl, sH3.seq hL, at_of (j := i) (by omega) hp, p, _, 0, _, rfl, rfl, same_sqt sH3 hpT, atI_nat (j := 0) rfl, _, _, rfl, rfl, ?_⟩
            refine ⟨_, rfl, _, rfl, (by show 1 ≤ sizeLine; decide), fun q1 hq1 => ?_⟩
            have nOq : o ≠ q1 := ne_of_none eO3 hq1
            have t1 := same_new (o := HO.lst [V.int (0 + (i : Int))]) hq1
            refine ⟨o, q1, _, _, rfl, rfl, by rw [upd_ne nOq]; exact eO3, upd_same, by rw [List.length_map, nints_len, hio.len]; show k + 1 ≤ sizeLine; exact Nat.le_trans (by omega) (by decide : 7 ≤ sizeLine), fun o2 ho2 => ?_⟩
            have t2 := same_new (o := HO.lst ((nints os).map V.int ++ [V.int (0 + (i : Int))])) ho2
            refine ⟨(by show 2 ≤ sizeLine; decide), fun m2 hm2 => ?_⟩
            have t3 := same_new (o := HO.tup [V.int (allOf d l os + serve d (endOf d l 0 d.he os).1 (endOf d l 0 d.he os).2 ask - ask.1), V.ref o2]) hm2
            have t13 := t1.trans (t2.trans t3)
            have eLg4 := t13 _ _ eLg3
            refine ⟨_, rfl, .inl ⟨rfl, _, SqL.of eLg4⟩, _, rfl, _, rfl, _, rfl, _, rfl, b, xs, _, .ref p, rfl, rfl, (sH3.trans t13).seq hL, at_of (j := i) (by omega) hp, p, _, 1, _, rfl, rfl, same_sqt (sH3.trans t13) hpT, atI_nat (j := 1) rfl, (by show 3 ≤ sizeLine; decide), fun t2' ht2 => ?_⟩
            have t4 := same_new (o := HO.tup [V.ref m2, V.int (serve d (endOf d l 0 d.he os).1 (endOf d l 0 d.he os).2 ask), V.int ask.2.1]) ht2
            have t14 := t13.trans t4
            have sH4 := sH3.trans t14
            have nGo : o2 ≠ Lg := (ne_of_none (t1 _ _ eLg3) ho2).symm
            have nGm : m2 ≠ Lg := (ne_of_none (t2 _ _ (t1 _ _ eLg3)) hm2).symm
            have nGt : t2' ≠ Lg := (ne_of_none eLg4 ht2).symm
            have fo : H o2 = none := sH3.free (t1.free ho2)
            have fm : H m2 = none := sH3.free (t1.free (t2.free hm2))
            have ft : H t2' = none := sH3.free (t13.free ht2)
            refine ⟨Lg, us', .ref t2', rfl, rfl, t4 _ _ eLg4, Nat.lt_trans hul (by decide), ?_⟩
            refine ⟨same_upd sH4 hLgH, same_upd (s13.trans t14) hLg, us' ++ [.ref t2'], _, _, _, _, rfl, upd_same, ?_⟩
            rw [moreTo_out hni, ← List.append_assoc]
            refine all2_snoc ?_ (all2_mono (fun v os => lvlAt_same (fr_step (sb_upd (sb_of t14)))) hus')
            refine ⟨t2', m2, rfl, fr_at nGt ft ?_, m2, o2, rfl, fr_at nGm fm ?_, fr_at nGo fo ?_⟩
            · rw [upd_ne nGt, upd_same, endOf_snoc, ek]
            · rw [upd_ne nGm, allOf_snoc, ek]
              exact t4 _ _ upd_same
            · rw [upd_ne nGo, ← nints_snoc]
              rw [t4 _ _ (t3 _ _ upd_same), Int.zero_add]
          · refine ⟨sH3, s13, us', _, _, _, _, rfl, eLg3, ?_⟩
            rw [moreTo_in (by simpa using hin)]
            exact hus'
        · rintro σ H3 ⟨sH3, s13, us', v7, v10, v11, v12, rfl, eLg3, hus'⟩
          refine ⟨sH3, s13, us', _, _, _, _, _, _, _, _, _, rfl, eLg3, ?_⟩
          rw [take_flat hos]
          rw [hxl] at hus'
          exact hus'
      · rintro σ H2 ⟨sH2, s12, us, v3, v5, v6, v7, v8, v9, v10, v11, v12, rfl, eLg, hus⟩
        rw [show (ordersK l.length k).take vs.length = ordersK l.length k from List.take_of_length_le (by omega)] at hus
        exact ⟨_, rfl, sH2, Lg, us, _, _, _, _, _, _, _, _, _, _, rfl, hLgH, eLg, all2_mono (fun v os => lvlAt_same fr_nw) hus⟩
    · -- the least
      rintro σ H1 ⟨sH, Lv, vs, v3, v4, v5, v6, v7, v8, v9, v10, v11, v12, rfl, hLv, eLv, hall⟩
      rw [hxl] at hall
      have hvl := all2_len hall
      have h6 := ordersK_len6 hl6 hl6
      refine ⟨_, rfl, Lv, rfl, ⟨_, SqL.of eLv⟩, fun D hD => ?_⟩
      have sD := same_new (o := .lst []) hD
      refine lc_list (K := K) (a := Lv) (xs := vs) (fun i H' => Same H1 H' ∧ ∃ ms : List V, H' D = some (.lst ms) ∧ ms.length = i ∧ All2 (SumAt d l (nw H H1)) ms ((ordersK l.length l.length).take i)) ⟨sD, [], upd_same, rfl, trivial⟩ (fun i H' _ ⟨s, _⟩ => SqL.of (s _ _ eLv)) ?_ ?_
      · rintro i y H2 hi ⟨s2, ms, eD, hml, hms⟩
        obtain ⟨os, hos, t, m, rfl, eT, eS⟩ := all2_at hall hi
        have hlt : i < vs.length := (List.getElem?_eq_some_iff.mp hi).1
        refine ⟨rfl, ?_⟩
        refine ⟨_, rfl, t, _, 0, _, rfl, rfl, SqT.of (s2 _ _ (nw_sub _ _ eT)), atI_nat (j := 0) rfl, ms, eD, Nat.lt_of_lt_of_le (by omega : ms.length < 46656) (by decide), same_upd s2 hD, ms ++ [.ref m], upd_same, by rw [List.length_append, hml]; rfl, ?_⟩
        rw [take_more hos]
        exact all2_snoc eS hms
      · rintro H2 ⟨s2, ms, eD, hml, hms⟩
        rw [List.take_of_length_le (by omega)] at hms
        obtain ⟨x, r, hxr⟩ : ∃ x r, (ordersK l.length l.length).map (dSum d l) = x :: r := by
          cases e : (ordersK l.length l.length).map (dSum d l) with
          | nil => exact absurd (List.map_eq_nil_iff.mp e) (ordersK_ne (Nat.le_refl _))
          | cons x r => exact ⟨x, r, rfl⟩
        have hdp : DpAll K H2 ms ((ordersK l.length l.length).map (dSum d l)) := all2_dpa (fun v os h => dp_same s2 (sumAt_dp (sumAt_same nw_sub h))) hms
        have hal := alike_sums d l (ordersK l.length l.length)
        have hdep := depth_sums d l (ordersK l.length l.length)
        rw [hxr] at hdp hal hdep
        refine ⟨D, ms, x, r, rfl, SqL.of eD, hdp, hal, ?_, fun i v hv hmin => ?_⟩
        · have hu := hr.units
          refine Nat.lt_of_le_of_lt ?_ hu
          rw [Nat.add_assoc]
          exact Nat.add_le_add_left (by omega) _
        · obtain ⟨os, hos, m, o, rfl, eM, eO⟩ := all2_at hms hv
          have e1 : (x :: r)[i]? = some (dSum d l os) := by
            rw [← hxr, List.getElem?_map, hos]
            rfl
          rw [e1] at hmin
          obtain ⟨fm, _⟩ := nw_of eM
          obtain ⟨fo, _⟩ := nw_of eO
          exact q H2 m o os (sH.trans s2) fm fo (s2 _ _ (nw_sub _ _ eM)) (s2 _ _ (nw_sub _ _ eO)) (ordersK_is (List.mem_of_getElem? hos)) ((Option.some.inj hmin).trans (leastOf_eq hxr).symm)
end
end Ag

namespace Ag
open PySem PySem.Spec PyProof.Rows L2
/-! ### orders_from -/
abbrev s_orders_from : Stmt := top 31
def sp_orders_from (k : Nat) (K : PySem.W.Frag) : Sp := fun vs H Q _ => ∃ (v u : V) (oa ca b : Addr) (d : Disk) (l : List Ask) (os : List Nat) (kvs : List (List Key × V)) (B : Best),
  vs = [v, u, .ref oa, .int (endOf d l 0 d.he os).1, .int (endOf d l 0 d.he os).2, .ref ca, .ref b] ∧ Dp K (wo H b) v (dDisk d) ∧ Dp K (wo H b) u (dAsks l) ∧ H oa = some (.lst ((nints os).map V.int)) ∧ H ca = some (.tup [.int (costW d l os).1, .int (costW d l os).2]) ∧
  H b = some (.dT kvs) ∧ All2 (KvAt (wo H b)) kvs B ∧ GoodDisk d ∧ l.length ≤ 6 ∧ IsOrd l.length os.length os ∧ os.length + k = l.length ∧ B.length + (lv l.length k os).length ≤ 1000000 ∧
  ∀ (H' : Hp) (kvs' : List (List Key × V)), SameBut b H H' → H' b = some (.dT kvs') → All2 (KvAt (wo H' b)) kvs' (dfs d l k os B) → Q .non H'
theorem sc_orders_from : FnScope ["disk", "asks", "order", "now", "here", "cost", "best", "number", "done", "way", "more", "one"] ["disk", "asks", "order", "now", "here", "cost", "best"] (defScope s_orders_from) := ⟨rfl, rfl, rfl, by decide +kernel, rfl, by decide +kernel, by decide +kernel⟩
section
variable {P : Program} {w : World} {K : PySem.W.Frag} {mg : Str → Option Value} {base : Heap}
set_option maxHeartbeats 32000000 in
theorem ok_orders_from {f f4 : Addr} {fd fd4 : FuncData} (F : Fun K "orders_from" "orders_from" s_orders_from f fd) (C_orders_from : Cal K mg "orders_from" f fd ["disk", "asks", "order", "now", "here", "cost", "best"])
    (G_served : FnOk P w K mg base CX0 1 f4 fd4 ["disk", "now", "here", "ask"] (sp_served K)) (C_served : Cal K mg "served" f4 fd4 ["disk", "now", "here", "ask"])
    (mb_len : mg "len" = none) (mb_range : mg "range" = none) (mb_abs : mg "abs" = none) (mb_max : mg "max" = none) : ∀ k : Nat, FnOk P w K mg base CX0 (k + 2) f fd ["disk", "asks", "order", "now", "here", "cost", "best"] (sp_orders_from k K)
  | 0 => by
    refine F.ok sc_orders_from (fun vs H Q E h => ?_) (fun cdv A outer s H vs Q E hr h => ?_)
    · obtain ⟨v, u, oa, ca, b, d, l, os, kvs, B, rfl, _⟩ := h
      rfl
    · obtain ⟨v, u, oa, ca, b, d, l, os, kvs, B, rfl, hd, ha, ho, hc, hb, hB, g, hl6, hio, hk, hroom, q⟩ := h
      have nd := sc_orders_from.nd
      obtain ⟨pa, xs, rfl, hL, hxl, hat⟩ := dp_asks (dp_same wo_sub ha)
      refine ⟨_, (pss_cons (ps_if (pt_cmpR op_eq (pe_callB call_len_seq (by rfl) mb_len PySem.boot_len (pa_cons (pv 2) pa_nil)) (pe_callB call_len_seq (by rfl) mb_len PySem.boot_len (pa_cons (pv 1) pa_nil)) (nomark _)) (pss_cons (ps_if (pt_cmp (pc_dnotin (hu_of hr) (pv 5) (pv 6))) (pss_one (ps_dput (hu_of hr) (pv 6) (pv 5) (pv 2) rfl)) pss_nil)
      (pss_one ps_retN)) pss_nil)
      (pss_one ps_never)), ?_⟩
      refine ⟨_, rfl, oa, _, rfl, .inl (SqL.of ho), _, rfl, pa, xs, rfl, .inl hL, rfl, _, rfl, ifd_t (by rw [List.length_map, nints_len, hxl]; rw [Nat.add_zero] at hk; rw [hk]) ?_⟩
      refine ⟨_, rfl, _, rfl, b, _, rfl, DGet.t (k := keyOf (costW d l os)) hb hc, _, rfl, ?_⟩
      rw [kv_none hB]
      by_cases hn : (look B (costW d l os)).isSome = true
      · rw [hn]
        refine iteF ?_
        refine q H kvs sb_refl hb ?_
        show All2 _ kvs (putB B (costW d l os) os)
        unfold putB
        rw [if_neg (by rw [Option.isNone_iff_eq_none]; intro z; rw [z] at hn; cases hn)]
        exact hB
      · have hn' : (look B (costW d l os)).isSome = false := by simpa using hn
        have hnone : look B (costW d l os) = none := by simpa using hn'
        rw [hn']
        refine iteT ?_
        have hlen : kvs.length < sizeLine := by
          rw [all2_len hB]
          refine Nat.lt_of_le_of_lt (show B.length ≤ 1000000 by omega) (by decide)
        refine ⟨_, rfl, _, rfl, _, rfl, b, _, rfl, DPut.t (k := keyOf (costW d l os)) hb hc hlen, ?_⟩
        rw [kv_putN hB hnone]
        refine q _ _ (sb_upd sb_refl) upd_same ?_
        show All2 _ _ (putB B (costW d l os) os)
        unfold putB
        rw [if_pos (by rw [hnone]; rfl)]
        have nob : oa ≠ b := ne_of ho hb (by intro z; cases z)
        refine all2_snoc ⟨rfl, oa, rfl, by rw [wo_ne nob, upd_ne nob]; exact ho⟩ (all2_mono (fun e b' => kvAt_same (sb_wo (sb_upd sb_refl))) hB)
  | k + 1 => by
    have G_orders_from := ok_orders_from F C_orders_from G_served C_served mb_len mb_range mb_abs mb_max k
    refine F.ok sc_orders_from (fun vs H Q E h => ?_) (fun cdv A outer s H vs Q E hr h => ?_)
    · obtain ⟨v, u, oa, ca, b, d, l, os, kvs, B, rfl, _⟩ := h
      rfl
    · obtain ⟨v, u, oa, ca, b, d, l, os, kvs, B, rfl, hd, ha, ho, hc, hb, hB, g, hl6, hio, hk, hroom, q⟩ := h
      have nd := sc_orders_from.nd
      have hr_served : Room 1 _ := hr.mono (by omega)
      have hr_orders_from : Room (k + 2) _ := hr
      obtain ⟨pd, rfl, hT⟩ := dp_disk hd
      obtain ⟨pa, xs, rfl, hL, hxl, hat⟩ := dp_asks ha
      refine ⟨_, (pss_cons (ps_if (pt_cmpR op_eq (pe_callB call_len_seq (by rfl) mb_len PySem.boot_len (pa_cons (pv 2) pa_nil)) (pe_callB call_len_seq (by rfl) mb_len PySem.boot_len (pa_cons (pv 1) pa_nil)) (nomark _)) (pss_cons ps_never
      (pss_one ps_never)) pss_nil)
      (pss_one (ps_for PassesOwn.never rfl (pi_range1 rfl mb_range (pa_cons (pe_callB call_len_seq (by rfl) mb_len PySem.boot_len (pa_cons (pv 1) pa_nil)) pa_nil)) (pg_name (i := 7) nd rfl (.inl rfl))
        (pss_one (ps_if (pt_cmpR op_notIn_seq (pv 7) (pv 2) (by rfl)) (pss_cons (ps_set (i := 8) nd rfl (.inl rfl) (pe_call G_served hr_served rfl C_served.m C_served.k C_served.b .nil pass0 (pa_cons (pv 0) (pa_cons (pv 3) (pa_cons (pv 4) (pa_cons (pe_ix (r := rIxL K) ix_list (pv 1) (pv 7) (fun _ _ => rfl)) pa_nil))))))
      (pss_cons (ps_set (i := 9) nd rfl (.inl rfl) (pe_op op_add (pe_ix (r := rIxT K) ix_tup (pv 5) pe_int (fun _ _ => rfl)) (pe_callB call_abs (by rfl) mb_abs (by decide +kernel) (pa_cons (pe_op op_sub (pe_ix (r := rIxT K) ix_tup (pe_ix (r := rIxL K) ix_list (pv 1) (pv 7) (fun _ _ => rfl)) pe_int (fun _ _ => rfl)) (pv 4)) pa_nil))))
      (pss_cons (ps_set (i := 10) nd rfl (.inr rfl) (pe_tup (pa_cons (pv 9) (pa_cons (pe_callB (call_max2 rfl) (by rfl) mb_max (by decide +kernel) (pa_cons (pe_ix (r := rIxT K) ix_tup (pv 5) pe_int (fun _ _ => rfl)) (pa_cons (pe_op op_sub (pv 8) (pe_ix (r := rIxT K) ix_tup (pe_ix (r := rIxL K) ix_list (pv 1) (pv 7) (fun _ _ => rfl)) pe_int (fun _ _ => rfl))) pa_nil))) pa_nil))))
      (pss_one (ps_if (pt_cmpR (op_eqD hr.units) (pe_lock (pe_lc (own := [("one", 11)]) (g := (gName 11)) rfl nd (pi_keys (pv 6)) (blkOk_by (own := [("one", 11)]) (N := ["disk", "asks", "order", "now", "here", "cost", "best", "number", "done", "way", "more", "one"]) (sc := defScope s_orders_from) (by decide +kernel)) (fun _ _ _ _ _ => (pg_name (i := 11) nd rfl (.inl rfl))) (fun _ _ _ _ _ => (pts_one (PW.pt (pw_and (pt_cmpR op_lt (pe_ix (r := rIxT K) ix_tup (pv 11) pe_int (fun _ _ => rfl)) (pe_ix (r := rIxT K) ix_tup (pv 10) pe_int (fun _ _ => rfl)) (nomark _)) (pw_and1 (pt_cmpR op_lt (pe_ix (r := rIxT K) ix_tup (pv 11) pe_int (fun _ _ => rfl)) (pe_ix (r := rIxT K) ix_tup (pv 10) pe_int (fun _ _ => rfl)) (nomark _))))))) (fun _ _ _ _ _ => (pv 11)))) (pe_lst pa_nil) (nomark _)) (pss_one (ps_expr (pe_call G_orders_from hr_orders_from rfl C_orders_from.m C_orders_from.k C_orders_from.b .nil pass0 (pa_cons (pv 0) (pa_cons (pv 1) (pa_cons (pe_op op_cat (pv 2) (pe_lst (pa_cons (pv 7) pa_nil))) (pa_cons (pv 8) (pa_cons (pe_ix (r := rIxT K) ix_tup (pe_ix (r := rIxL K) ix_list (pv 1) (pv 7) (fun _ _ => rfl)) pe_int (fun _ _ => rfl)) (pa_cons (pv 10) (pa_cons (pv 6) pa_nil)))))))))) pss_nil))))) pss_nil))))), ?_⟩
      have nob : oa ≠ b := ne_of ho hb (by intro z; cases z)
      have ncb : ca ≠ b := ne_of hc hb (by intro z; cases z)
      refine ⟨_, rfl, oa, _, rfl, .inl (SqL.of ho), _, rfl, pa, xs, rfl, .inl (wo_sub.seq hL), rfl, _, rfl, ifd_f (fun z => ?_) ?_⟩
      · rw [List.length_map, nints_len, hxl] at z
        have := V.int.inj z
        omega
      refine ⟨_, rfl, pa, xs, rfl, .inl (wo_sub.seq hL), _, rfl, by rw [hxl]; omega, by rw [hxl]; omega, ?_⟩
      refine for_range (lo := 0) (n := xs.length) (fun m σ H' => SameBut b H H' ∧ ∃ (kvs' : List (List Key × V)) (v7 v8 v9 v10 v11 : Option V), σ = [some (.ref pd), some (.ref pa), some (.ref oa), some (.int (endOf d l 0 d.he os).1), some (.int (endOf d l 0 d.he os).2), some (.ref ca), some (.ref b), v7, v8, v9, v10, v11] ∧
          H' b = some (.dT kvs') ∧ All2 (KvAt (wo H' b)) kvs' (dfsTo d l k os B m)) ⟨sb_refl, kvs, none, none, none, none, none, rfl, hb, hB⟩ ?_ ?_
      · rintro m σ H1 hm ⟨sb1, kvs1, v7, v8, v9, v10, v11, rfl, hb1, hB1⟩
        have hml : m < l.length := by omega
        obtain ⟨ask, hask⟩ : ∃ ask, l[m]? = some ask := ⟨_, List.getElem?_eq_getElem hml⟩
        obtain ⟨p, hp, hpT, hpd⟩ := hat m ask hask
        have ek : l.getD m (0, 0, 0) = ask := getD_of hask
        have ho1 := sb1 _ _ nob ho
        have hc1 := sb1 _ _ ncb hc
        have sw1 := sb_wo sb1
        have hLw : ∀ {H' : Hp}, SameBut b H1 H' → SqL K H' pa xs := fun s => wo_sub.seq ((sb_wo (sb_trans sb1 s)).seq hL)
        have hPw : ∀ {H' : Hp}, SameBut b H1 H' → SqT K H' p [.int ask.1, .int ask.2.1, .int ask.2.2] := fun s => same_sqt wo_sub (same_sqt (sb_wo (sb_trans sb1 s)) hpT)
        have r0 : SameBut b H1 H1 := sb_refl
        refine ⟨_, rfl, _, rfl, oa, _, rfl, .inl (SqL.of ho1), rfl, flat_nints os, _, rfl, ?_⟩
        refine ite_eqb (c := decide (m ∉ os)) ?_ ?_
        · show (!inV (.int (0 + (m : Int))) ((nints os).map V.int)) = decide (m ∉ os)
          rw [Int.zero_add, inV_nints]
          simp
        refine if2d (fun hni => ?_) (fun hin => ?_)
        · -- served
          refine ⟨_, rfl, _, rfl, _, rfl, _, rfl, _, rfl, pa, xs, _, .ref p, rfl, rfl, hLw r0, at_of (j := m) (by omega) hp, ?_⟩
          refine ⟨.ref pd, .ref p, d, _, _, ask, rfl, dp_same wo_sub (dp_same sw1 hd), dp_same wo_sub (dp_same sw1 hpd), g, ?_⟩
          refine ⟨_, rfl, ca, _, 0, _, rfl, rfl, SqT.of hc1, atI_nat (j := 0) rfl, _, rfl, _, rfl, pa, xs, _, .ref p, rfl, rfl, hLw r0, at_of (j := m) (by omega) hp, p, _, 1, _, rfl, rfl, hPw r0, atI_nat (j := 1) rfl, _, rfl, _, _, rfl, rfl, _, rfl, _, _, rfl, rfl, ?_⟩
          refine ⟨_, rfl, _, rfl, ca, _, 1, _, rfl, rfl, SqT.of hc1, atI_nat (j := 1) rfl, _, rfl, _, rfl, _, rfl, pa, xs, _, .ref p, rfl, rfl, hLw r0, at_of (j := m) (by omega) hp, p, _, 0, _, rfl, rfl, hPw r0, atI_nat (j := 0) rfl, _, _, rfl, rfl, _, _, rfl, (by show 2 ≤ sizeLine; decide), fun mo hmo => ?_⟩
          have emo : HO.tup [V.int ((costW d l os).1 + if ask.2.1 - (endOf d l 0 d.he os).2 < 0 then -(ask.2.1 - (endOf d l 0 d.he os).2) else ask.2.1 - (endOf d l 0 d.he os).2),
              V.int (if serve d (endOf d l 0 d.he os).1 (endOf d l 0 d.he os).2 ask - ask.1 > (costW d l os).2 then serve d (endOf d l 0 d.he os).1 (endOf d l 0 d.he os).2 ask - ask.1 else (costW d l os).2)] = HO.tup [.int (costW d l (os ++ [m])).1, .int (costW d l (os ++ [m])).2] := by
            rw [costW_snoc, ek]
            rfl
          have hgo : ∀ {A : Hp → Prop}, A (upd H1 mo (HO.tup [.int (costW d l (os ++ [m])).1, .int (costW d l (os ++ [m])).2])) → A (upd H1 mo (HO.tup [V.int ((costW d l os).1 + if ask.2.1 - (endOf d l 0 d.he os).2 < 0 then -(ask.2.1 - (endOf d l 0 d.he os).2) else ask.2.1 - (endOf d l 0 d.he os).2),
              V.int (if serve d (endOf d l 0 d.he os).1 (endOf d l 0 d.he os).2 ask - ask.1 > (costW d l os).2 then serve d (endOf d l 0 d.he os).1 (endOf d l 0 d.he os).2 ask - ask.1 else (costW d l os).2)])) := fun h => by
            rw [emo]
            exact h
          refine hgo ?_
          have s2 := same_new (o := HO.tup [.int (costW d l (os ++ [m])).1, .int (costW d l (os ++ [m])).2]) hmo
          have nbm : b ≠ mo := ne_of_none hb1 hmo
          have hb2 := s2 _ _ hb1
          -- is it beaten?
          refine ⟨b, .dT kvs1, hb2, trivial, fun od => ⟨_, rfl, b, od, rfl, .inr ⟨kvs1, upd_same, fun D hD => ?_⟩⟩⟩
          have nDb : D ≠ b := fun z => by rw [z, upd_same] at hD; cases hD
          have hD2 : upd H1 mo (HO.tup [.int (costW d l (os ++ [m])).1, .int (costW d l (os ++ [m])).2]) D = none := by rw [upd_ne nDb] at hD; exact hD
          have sD := same_new (o := .lst []) hD
          refine lc_keysT (fun i H' => Same (upd (upd H1 mo (HO.tup [.int (costW d l (os ++ [m])).1, .int (costW d l (os ++ [m])).2])) b (.frz od (.dT kvs1))) H' ∧ ∃ ws : List V, H' D = some (.lst ws) ∧ ws.length ≤ i ∧
              All2 (PrAt (wo H' D)) ws ((((dfsTo d l k os B m).take i).filter fun e => strict e.1 (costW d l (os ++ [m]))).map (·.1)))
            ⟨sD, [], upd_same, Nat.le_refl _, trivial⟩ (fun i H' _ ⟨s, _⟩ => s _ _ upd_same) ?_ ?_
          · rintro i ky vv qa H3 hi hq ⟨s3, ws, eD, hwl, hws⟩
            obtain ⟨e, he, hke⟩ := all2_at hB1 hi
            have hky : ky = keyOf e.1 := hke.1
            subst hky
            have hlt : i < kvs1.length := (List.getElem?_eq_some_iff.mp hi).1
            have hq3 : H3 qa = some (.tup [.int e.1.1, .int e.1.2]) := hq
            have nmb : mo ≠ b := nbm.symm
            have hm3 : H3 mo = some (.tup [.int (costW d l (os ++ [m])).1, .int (costW d l (os ++ [m])).2]) := s3 _ _ (by rw [upd_ne nmb, upd_same])
            have hlen2 : kvs1.length < 1000001 := by
              have := dfsTo_room (d := d) (B := B) (k := k) hml hni hroom
              rw [all2_len hB1]
              omega
            refine ⟨rfl, _, rfl, qa, _, 0, _, rfl, rfl, SqT.of hq3, atI_nat (j := 0) rfl, _, rfl, mo, _, 0, _, rfl, rfl, SqT.of hm3, atI_nat (j := 0) rfl, _, _, rfl, rfl, _, rfl, ?_⟩
            have fin : ∀ {Z : Prop}, Z → Z := fun h => h
            rw [take_more he, List.filter_append, List.map_append]
            by_cases h1 : e.1.1 < (costW d l (os ++ [m])).1
            · refine ifd_t h1 ⟨_, rfl, qa, _, 1, _, rfl, rfl, SqT.of hq3, atI_nat (j := 1) rfl, _, rfl, mo, _, 1, _, rfl, rfl, SqT.of hm3, atI_nat (j := 1) rfl, _, _, rfl, rfl, _, rfl, ?_⟩
              by_cases h2 : e.1.2 < (costW d l (os ++ [m])).2
              · refine ifd_t h2 ⟨_, rfl, ws, eD, Nat.lt_of_le_of_lt hwl (Nat.lt_trans (Nat.lt_trans hlt hlen2) (by decide)), same_upd s3 hD, ws ++ [.ref qa], upd_same, by rw [List.length_append]; show ws.length + 1 ≤ i + 1; omega, ?_⟩
                have e1 : ([e].filter fun e => strict e.1 (costW d l (os ++ [m]))) = [e] := by
                  simp [strict, h1, h2]
                rw [e1]
                have nqD : qa ≠ D := ne_of hq3 eD (by intro z; cases z)
                exact all2_snoc ⟨qa, rfl, by rw [wo_ne nqD, upd_ne nqD]; exact hq3⟩ (all2_mono (fun v c => prAt_same (sb_wo (sb_upd sb_refl))) hws)
              · refine ifd_f h2 ⟨s3, ws, eD, by omega, ?_⟩
                have e1 : ([e].filter fun e => strict e.1 (costW d l (os ++ [m]))) = [] := by
                  simp [strict, h1, h2]
                rw [e1]
                simpa using hws
            · refine ifd_f h1 (iteF ⟨s3, ws, eD, by omega, ?_⟩)
              have e1 : ([e].filter fun e => strict e.1 (costW d l (os ++ [m]))) = [] := by
                simp [strict, h1]
              rw [e1]
              simpa using hws
          · rintro H3 ⟨s3, ws, eD, hwl, hws⟩
            rw [List.take_of_length_le (by rw [all2_len hB1]; exact Nat.le_refl _)] at hws
            refine ⟨s3 _ _ upd_same, Nat.zero_le _, fun e0 he0 => ?_⟩
            have nbe : b ≠ e0 := fun z => by rw [← z, upd_same] at he0; cases he0
            have he3 : H3 e0 = none := by rw [upd_ne nbe.symm] at he0; exact he0
            have se := same_new (o := .lst []) he0
            have sN : Same (upd H1 mo (HO.tup [.int (costW d l (os ++ [m])).1, .int (costW d l (os ++ [m])).2])) (upd (upd H3 b (.dT kvs1)) e0 (.lst [])) := fun x o e => by
              by_cases hx : x = b
              · rw [hx] at e ⊢
                rw [hb2] at e
                cases e
                exact se _ _ upd_same
              · refine se _ _ ?_
                rw [upd_ne hx]
                exact s3 _ _ (by rw [upd_ne hx]; exact e)
            have eDn : upd (upd H3 b (.dT kvs1)) e0 (.lst []) D = some (.lst ws) := se _ _ (by rw [upd_ne nDb]; exact eD)
            have hwsn : All2 (PrAt (upd (upd H3 b (.dT kvs1)) e0 (.lst []))) ws ((((dfsTo d l k os B m)).filter fun e => strict e.1 (costW d l (os ++ [m]))).map (·.1)) := all2_mono (fun v c h => by
              obtain ⟨qa, e, h⟩ := prAt_same wo_sub h
              have nqb : qa ≠ b := ne_of h (s3 _ _ upd_same) (by intro z; cases z)
              exact ⟨qa, e, se _ _ (by rw [upd_ne nqb]; exact h)⟩) hws
            refine ⟨.list (((((dfsTo d l k os B m)).filter fun e => strict e.1 (costW d l (os ++ [m]))).map (·.1)).map dPr), .list [], .lst (SqL.of eDn) (all2_dpa (f := dPr) (fun v c h => prAt_dp h) hwsn), .lst (SqL.of upd_same) .nil, shaped_prs _, rfl, _, rfl, ?_⟩
            rw [eqv_nilA, List.isEmpty_map, none_beats]
            have sH := s2.trans sN
            revert sN sH
            generalize upd (upd H3 b (.dT kvs1)) e0 (.lst []) = H4
            intro sN sH
            have hb4 := sH _ _ hb1
            have hm4 := sN _ _ upd_same
            have sb4 := sb_trans sb1 (sb_of sH)
            have hB4 : All2 (KvAt (wo H4 b)) kvs1 (dfsTo d l k os B m) := all2_mono (fun e b' => kvAt_same (wo_mono sH)) hB1
            by_cases hbeat : ((dfsTo d l k os B m).any fun b => strict b.1 (costW d l (os ++ [m]))) = true
            · rw [hbeat]
              refine iteF ⟨sb4, kvs1, _, _, _, _, _, rfl, hb4, ?_⟩
              rw [dfsTo_succ, if_neg hni, if_pos hbeat]
              exact hB4
            · have hbeat' : ((dfsTo d l k os B m).any fun b => strict b.1 (costW d l (os ++ [m]))) = false := by simpa using hbeat
              rw [hbeat']
              have ho4 := sH _ _ ho1
              refine iteT ⟨_, rfl, _, rfl, _, rfl, _, rfl, (by show 1 ≤ sizeLine; decide), fun q1 hq1 => ?_⟩
              have nOq : oa ≠ q1 := ne_of_none ho4 hq1
              have t1 := same_new (o := HO.lst [V.int (0 + (m : Int))]) hq1
              refine ⟨oa, q1, _, _, rfl, rfl, by rw [upd_ne nOq]; exact ho4, upd_same, by rw [List.length_map, nints_len]; show os.length + 1 ≤ sizeLine; exact Nat.le_trans (by omega) (by decide : 7 ≤ sizeLine), fun o2 ho2 => ?_⟩
              have t2 := same_new (o := HO.lst ((nints os).map V.int ++ [V.int (0 + (m : Int))])) ho2
              have t12 := t1.trans t2
              have s14 : SameBut b H1 (upd (upd H4 q1 (HO.lst [V.int (0 + (m : Int))])) o2 (HO.lst ((nints os).map V.int ++ [V.int (0 + (m : Int))]))) := sb_of (sH.trans t12)
              refine ⟨_, rfl, _, rfl, _, rfl, pa, xs, _, .ref p, rfl, rfl, hLw s14, at_of (j := m) (by omega) hp, p, _, 1, _, rfl, rfl, hPw s14, atI_nat (j := 1) rfl, _, rfl, _, rfl, ?_⟩
              have sb5 := sb_trans sb1 s14
              refine ⟨.ref pd, .ref pa, o2, mo, b, d, l, os ++ [m], kvs1, dfsTo d l k os B m, ?_, dp_same (sb_wo sb5) hd, dp_same (sb_wo sb5) ha, ?_, t12 _ _ hm4, t12 _ _ hb4, all2_mono (fun e b' => kvAt_same (wo_mono t12)) hB4, g, hl6, ?_, by rw [List.length_append]; show os.length + 1 + k = l.length; omega, dfsTo_room hml hni hroom, fun H6 kvs6 sb6 hb6 hB6 => ?_⟩
              · rw [endOf_snoc, ek]
                rfl
              · rw [upd_same, ← nints_snoc, Int.zero_add]
              · have := isOrd_snoc hio hml hni
                rw [List.length_append]
                exact this
              · refine ⟨sb_trans sb5 sb6, kvs6, _, _, _, _, _, rfl, hb6, ?_⟩
                rw [dfsTo_succ, if_neg hni, if_neg hbeat]
                exact hB6
        · have hin' : m ∈ os := by simpa using hin
          refine ⟨sb1, kvs1, _, _, _, _, _, rfl, hb1, ?_⟩
          rw [dfsTo_succ, if_pos hin']
          exact hB1
      · rintro σ H1 ⟨sb1, kvs1, v7, v8, v9, v10, v11, rfl, hb1, hB1⟩
        rw [hxl] at hB1
        exact q H1 kvs1 sb1 hb1 hB1
end
end Ag

namespace Ag
open PySem PySem.Spec PyProof.Rows L2
/-! ### all_costs -/
abbrev s_all_costs : Stmt := top 32
def sp_all_costs (K : PySem.W.Frag) : Sp := fun vs H Q _ => ∃ (v u : V) (d : Disk) (l : List Ask), vs = [v, u] ∧ Dp K H v (dDisk d) ∧ Dp K H u (dAsks l) ∧ GoodDisk d ∧ l.length ≤ 6 ∧
  ∀ (H' : Hp) (b : Addr) (kvs : List (List Key × V)), Same H H' → H b = none → H' b = some (.dT kvs) → All2 (KvAt (wo H' b)) kvs (dfs d l l.length [] []) → Q (.ref b) H'
theorem sc_all_costs : FnScope ["disk", "asks", "best"] ["disk", "asks"] (defScope s_all_costs) := ⟨rfl, rfl, rfl, by decide +kernel, rfl, by decide +kernel, by decide +kernel⟩
theorem lv_room {l : List Ask} (h : l.length ≤ 6) : ([] : Best).length + (lv l.length l.length []).length ≤ 1000000 := by
  rw [lv_root]
  have := ordersK_len6 h h
  show 0 + _ ≤ _
  omega
section
variable {P : Program} {w : World} {K : PySem.W.Frag} {mg : Str → Option Value} {base : Heap}
theorem ok_all_costs {f f1 : Addr} {fd fd1 : FuncData} (F : Fun K "all_costs" "all_costs" s_all_costs f fd)
    (GO : ∀ k : Nat, FnOk P w K mg base CX0 (k + 2) f1 fd1 ["disk", "asks", "order", "now", "here", "cost", "best"] (sp_orders_from k K)) (C_orders_from : Cal K mg "orders_from" f1 fd1 ["disk", "asks", "order", "now", "here", "cost", "best"]) : FnOk P w K mg base CX0 9 f fd ["disk", "asks"] (sp_all_costs K) := by
  refine F.ok sc_all_costs (fun vs H Q E h => ?_) (fun cdv A outer s H vs Q E hr h => ?_)
  · obtain ⟨v, u, d, l, rfl, _⟩ := h
    rfl
  · obtain ⟨v, u, d, l, rfl, hd, ha, g, hl6, q⟩ := h
    have nd := sc_all_costs.nd
    have G_orders_from := GO l.length
    have hr_orders_from : Room (l.length + 2) _ := hr.mono (by omega)
    have hd0 := hd
    obtain ⟨a, rfl, hT⟩ := dp_disk hd
    refine ⟨_, (pss_cons (ps_set (i := 2) nd rfl (.inl rfl) pe_dnewT)
      (pss_cons (ps_expr (pe_call G_orders_from hr_orders_from rfl C_orders_from.m C_orders_from.k C_orders_from.b .nil pass0 (pa_cons (pv 0) (pa_cons (pv 1) (pa_cons (pe_lst pa_nil) (pa_cons pe_int (pa_cons (pe_ix (r := rIxT K) ix_tup (pv 0) pe_int (fun _ _ => rfl)) (pa_cons (pe_tup (pa_cons pe_int (pa_cons pe_int pa_nil))) (pa_cons (pv 2) pa_nil)))))))))
      (pss_one (ps_ret (pv 2))))), ?_⟩
    intro b hb
    have s1 := same_new (o := .dT []) hb
    refine ⟨_, rfl, _, rfl, Nat.zero_le _, fun oa hoa => ?_⟩
    have s2 := same_new (o := .lst []) hoa
    refine ⟨_, rfl, a, _, 3, _, rfl, rfl, same_sqt (s1.trans s2) hT, atI_nat (j := 3) rfl, (by show 2 ≤ sizeLine; decide), fun ca hca => ?_⟩
    have s3 := same_new (o := HO.tup [.int 0, .int 0]) hca
    have s13 := s1.trans (s2.trans s3)
    refine ⟨_, rfl, ?_⟩
    refine ⟨.ref a, u, oa, ca, b, d, l, [], [], [], rfl, dp_same (into_wo s13 hb) hd0, dp_same (into_wo s13 hb) ha, s3 _ _ upd_same, upd_same, s3 _ _ (s2 _ _ upd_same), trivial, g, hl6, ⟨rfl, fun i hi => absurd hi (by simp), List.nodup_nil⟩, by show 0 + l.length = l.length; omega, lv_room hl6, fun H' kvs' sb hb' hB => ?_⟩
    exact ⟨_, rfl, q H' b kvs' (same_sb s13 hb sb) hb hb' hB⟩
end
/-! ### front -/
abbrev s_front : Stmt := top 33
/-- (way, longest wait, order), a tuple with a list of its own -/
def FrAt (G : Hp) (v : V) (e : Cost × List Nat) : Prop := ∃ t o, v = .ref t ∧ G t = some (.tup [.int e.1.1, .int e.1.2, .ref o]) ∧ G o = some (.lst ((nints e.2).map V.int))
def dFr (e : Cost × List Nat) : PyData := .tuple [.int e.1.1, .int e.1.2, .list ((nints e.2).map PyData.int)]
theorem frAt_same {G G' : Hp} {v : V} {e : Cost × List Nat} (s : Same G G') (h : FrAt G v e) : FrAt G' v e := by
  obtain ⟨t, o, e, h1, h2⟩ := h
  exact ⟨t, o, e, s _ _ h1, s _ _ h2⟩
theorem frAt_dp {K : PySem.W.Frag} {G : Hp} {v : V} {e : Cost × List Nat} (h : FrAt G v e) : Dp K G v (dFr e) := by
  obtain ⟨t, o, rfl, h1, h2⟩ := h
  exact .tup (SqT.of h1) (.cons (.int _) (.cons (.int _) (.cons (dp_ints_of (SqL.of h2)) .nil)))
theorem canLay_frs : ∀ l : List (Cost × List Nat), PyData.canLayAll0 (l.map dFr) = true
  | [] => by simp [PyData.canLayAll0]
  | n :: r => by simp [PyData.canLayAll0, PyData.canLay0, dFr, canLay_frs r, canLay_ints]
theorem depth_frs : ∀ l : List (Cost × List Nat), PyData.depthAll (l.map dFr) ≤ 2
  | [] => by simp [PyData.depthAll]
  | n :: r => by
    have h := depth_frs r
    have e : PyData.depth (dFr n) = 2 := by
      unfold dFr
      simp [PyData.depth, PyData.depthAll, PySem.W.depth_ints]
    rw [List.map_cons, PyData.depthAll, e]
    omega
theorem shaped_frs (l : List (Cost × List Nat)) : SeqAt.shaped (.list (l.map dFr)) = true := by
  have := depth_frs l
  unfold SeqAt.shaped
  simp [PyData.canLay0, canLay_frs, PyData.depth]
  omega
def sp_front (K : PySem.W.Frag) : Sp := fun vs H Q _ => ∃ (v u : V) (d : Disk) (l : List Ask), vs = [v, u] ∧ Dp K H v (dDisk d) ∧ Dp K H u (dAsks l) ∧ GoodDisk d ∧ GoodAsks d l ∧ l.length ≤ 6 ∧
  ∀ (H' : Hp) (p : Addr) (us : List V) (F : List (Cost × List Nat)), Same H H' → H p = none → H' p = some (.lst us) → All2 (FrAt (fr H H' p)) us F → IsFront d l F → F.length ≤ 1000000 → Q (.ref p) H'
theorem sc_front : FnScope ["disk", "asks", "known", "found", "cost"] ["disk", "asks"] (defScope s_front) := ⟨rfl, rfl, rfl, by decide +kernel, rfl, by decide +kernel, by decide +kernel⟩
def lastOf (Fc : List Cost) : Option Int := Fc.getLast?.map (·.2)
def keepsB (Fc : List Cost) (c : Cost) : Bool := match lastOf Fc with
  | none => true
  | some m => decide (c.2 < m)
theorem scan_keep {Fc rest : List Cost} {c : Cost} (h : keepsB Fc c = true) : Fc ++ scan (lastOf Fc) (c :: rest) = (Fc ++ [c]) ++ scan (lastOf (Fc ++ [c])) rest := by
  have e : lastOf (Fc ++ [c]) = some c.2 := by
    unfold lastOf
    simp
  rw [e, List.append_assoc]
  unfold keepsB at h
  cases hl : lastOf Fc with
  | none => rfl
  | some m =>
    rw [hl] at h
    have h : c.2 < m := of_decide_eq_true h
    show Fc ++ (if c.2 < m then c :: scan (some c.2) rest else scan (some m) rest) = _
    rw [if_pos h]
    rfl
theorem scan_drop {Fc rest : List Cost} {c : Cost} (h : keepsB Fc c = false) : Fc ++ scan (lastOf Fc) (c :: rest) = Fc ++ scan (lastOf Fc) rest := by
  unfold keepsB at h
  cases hl : lastOf Fc with
  | none =>
    rw [hl] at h
    cases h
  | some m =>
    rw [hl] at h
    have h : ¬ c.2 < m := of_decide_eq_false h
    show Fc ++ (if c.2 < m then c :: scan (some c.2) rest else scan (some m) rest) = _
    rw [if_neg h]
section
variable {P : Program} {w : World} {K : PySem.W.Frag} {mg : Str → Option Value} {base : Heap}
set_option maxHeartbeats 16000000 in
theorem ok_front {f f1 f2 f3 f4 : Addr} {fd fd1 fd2 fd3 fd4 : FuncData} (F : Fun K "front" "front" s_front f fd)
    (G_need_disk : FnOk P w K mg base CX0 1 f1 fd1 ["disk"] (sp_need_disk K)) (C_need_disk : Cal K mg "need_disk" f1 fd1 ["disk"])
    (G_need_asks : FnOk P w K mg base CX0 1 f2 fd2 ["disk", "asks"] (sp_need_asks K)) (C_need_asks : Cal K mg "need_asks" f2 fd2 ["disk", "asks"])
    (G_need_few : FnOk P w K mg base CX0 1 f3 fd3 ["asks"] (sp_need_few K)) (C_need_few : Cal K mg "need_few" f3 fd3 ["asks"])
    (G_all_costs : FnOk P w K mg base CX0 9 f4 fd4 ["disk", "asks"] (sp_all_costs K)) (C_all_costs : Cal K mg "all_costs" f4 fd4 ["disk", "asks"])
    (mb_sorted : mg "sorted" = none) (mb_list : mg "list" = none) : FnOk P w K mg base CX0 10 f fd ["disk", "asks"] (sp_front K) := by
  refine F.ok sc_front (fun vs H Q E h => ?_) (fun cdv A outer s H vs Q E hr h => ?_)
  · obtain ⟨v, u, d, l, rfl, _⟩ := h
    rfl
  · obtain ⟨v, u, d, l, rfl, hd, ha, g, ga, hl6, q⟩ := h
    have nd := sc_front.nd
    have hr_need_disk : Room 1 _ := hr.mono (by decide)
    have hr_need_asks : Room 1 _ := hr.mono (by decide)
    have hr_need_few : Room 1 _ := hr.mono (by decide)
    have hr_all_costs : Room 9 _ := hr
    refine ⟨_, (pss_cons (ps_expr (pe_call G_need_disk hr_need_disk rfl C_need_disk.m C_need_disk.k C_need_disk.b .nil pass0 (pa_cons (pv 0) pa_nil)))
      (pss_cons (ps_expr (pe_call G_need_asks hr_need_asks rfl C_need_asks.m C_need_asks.k C_need_asks.b .nil pass0 (pa_cons (pv 0) (pa_cons (pv 1) pa_nil))))
      (pss_cons (ps_expr (pe_call G_need_few hr_need_few rfl C_need_few.m C_need_few.k C_need_few.b .nil pass0 (pa_cons (pv 1) pa_nil)))
      (pss_cons (ps_set (i := 2) nd rfl (.inl rfl) (pe_call G_all_costs hr_all_costs rfl C_all_costs.m C_all_costs.k C_all_costs.b .nil pass0 (pa_cons (pv 0) (pa_cons (pv 1) pa_nil))))
      (pss_cons (ps_set (i := 3) nd rfl (.inl rfl) (pe_lst pa_nil))
      (pss_cons (ps_for PassesOwn.never rfl (pi_list (pe_callB (cr_sortedDT rfl) (by rfl) mb_sorted (by decide +kernel) (pa_cons (pv 2) pa_nil))) (pg_name (i := 4) nd rfl (.inl rfl))
        (pss_one (ps_if (PW.pt (pw_or (pt_cmpR (op_eqD hr.units) (pv 3) (pe_lst pa_nil) (nomark _)) (pw_or1 (pt_cmpR op_lt (pe_ix (r := rIxT K) ix_tup (pv 4) pe_int (fun _ _ => rfl)) (pe_ix (r := rIxT K) ix_tup (pe_ix (r := rIxL K) ix_list (pv 3) (pe_un un_neg pe_int) (fun _ _ => rfl)) pe_int (fun _ _ => rfl)) (nomark _))))) (pss_one (ps_expr (pe_bm PySem.F.plainAttrs_list PySem.F.slot_list_append PySem.F.type_list_append mt_append (pv 3) (pa_cons (pe_tup (pa_cons (pe_ix (r := rIxT K) ix_tup (pv 4) pe_int (fun _ _ => rfl)) (pa_cons (pe_ix (r := rIxT K) ix_tup (pv 4) pe_int (fun _ _ => rfl)) (pa_cons (pe_callTy call_list_of (by rfl) mb_list (by decide +kernel) (pa_cons (pe_dget (hu_of hr) (pv 2) (pv 4) (fun _ _ => rfl)) pa_nil)) pa_nil)))) pa_nil)))) pss_nil)))
      (pss_one (ps_ret (pv 3))))))))), ?_⟩
    refine ⟨_, rfl, v, d, rfl, hd, g, ?_⟩
    refine ⟨_, rfl, _, rfl, v, u, d, l, rfl, hd, ha, ga, ?_⟩
    refine ⟨_, rfl, u, l, rfl, ha, hl6, ?_⟩
    refine ⟨_, rfl, _, rfl, v, u, d, l, rfl, hd, ha, g, hl6, fun H1 b kvs s1 hb0 hb hB => ?_⟩
    -- the dict's costs
    have hI := dfs_inv d l l.length 0 [] [] [] (by omega) ⟨rfl, fun i hi => absurd hi (by simp), List.nodup_nil⟩ (fun x hx => absurd hx (by simp)) ⟨fun b hb => absurd hb (by simp), List.nodup_nil, fun c hc => rfl⟩
    rw [List.nil_append, lv_root] at hI
    have hBl : (dfs d l l.length [] []).length ≤ 1000000 := Nat.le_trans (dfs_len d l l.length [] []) (lv_room hl6)
    revert hI hB hBl
    generalize dfs d l l.length [] [] = B
    intro hB hI hBl
    refine ⟨Nat.zero_le _, fun F0 hF0 => ?_⟩
    have sF := same_new (o := .lst []) hF0
    have hF0' := s1.free hF0
    have nbF : b ≠ F0 := ne_of_none hb hF0
    have hb2 := sF _ _ hb
    refine ⟨_, rfl, b, kvs, B.map (·.1), rfl, .inl hb2, kv_keys hB, fun ps as hps hperm hsort has => ?_⟩
    have sP := same_new (o := .lst (as.map V.ref)) hps
    have s13 := s1.trans (sF.trans sP)
    have hFr := front_of hI hperm hsort
    refine ⟨ps, rfl, ⟨_, SqL.of upd_same⟩, ?_⟩
    have nFp : F0 ≠ ps := ne_of_none upd_same hps
    refine for_list (K := K) (a := ps) (xs := as.map V.ref) (fun i σ H' => SameBut F0 (upd (upd H1 F0 (.lst [])) ps (.lst (as.map V.ref))) H' ∧ ∃ (us : List V) (Fc : List Cost) (v4 : Option V), σ = [some v, some u, some (.ref b), some (.ref F0), v4] ∧ H' F0 = some (.lst us) ∧ us.length ≤ i ∧
        scan none (as.map (pairAt (upd H1 F0 (.lst [])))) = Fc ++ scan (lastOf Fc) ((as.map (pairAt (upd H1 F0 (.lst [])))).drop i) ∧ All2 (FrAt (fr H H' F0)) us (Fc.map fun c => (c, (look B c).getD [])))
      ⟨sb_refl, [], [], none, rfl, sP _ _ upd_same, Nat.le_refl _, rfl, trivial⟩ (fun i σ H' _ ⟨s, _⟩ => SqL.of (s _ _ nFp.symm upd_same)) ?_ ?_
    · rintro i y σ H2 hi ⟨sb2, us, Fc, v4, rfl, eF, hul, hscan, hus⟩
      obtain ⟨qa, hqa, rfl⟩ : ∃ qa, as[i]? = some qa ∧ y = .ref qa := by
        rw [List.getElem?_map] at hi
        cases e : as[i]? with
        | none => rw [e] at hi; cases hi
        | some qa => rw [e] at hi; exact ⟨qa, rfl, (Option.some.inj hi).symm⟩
      have hq0 := has qa (List.mem_of_getElem? hqa)
      have hlt : i < as.length := (List.getElem?_eq_some_iff.mp hqa).1
      have nqF : qa ≠ F0 := ne_of hq0 (upd_same (H := H1) (o := .lst [])) (by intro z; cases z)
      have hq2 : H2 qa = _ := sb2 _ _ nqF (sP _ _ hq0)
      have hb3 : H2 b = some (.dT kvs) := sb2 _ _ nbF (sP _ _ hb2)
      have hcB : pairAt (upd H1 F0 (.lst [])) qa ∈ B.map (·.1) := hperm.mem_iff.mp (List.mem_map.mpr ⟨qa, List.mem_of_getElem? hqa, rfl⟩)
      obtain ⟨os, hos⟩ : ∃ os, look B (pairAt (upd H1 F0 (.lst [])) qa) = some os := by
        cases e : look B (pairAt (upd H1 F0 (.lst [])) qa) with
        | none => exact absurd hcB (look_none.mp e)
        | some os => exact ⟨os, rfl⟩
      obtain ⟨vo, hvo, o, rfl, ho⟩ := kv_some hB hos
      have ho1 := wo_sub _ _ ho
      have noF : o ≠ F0 := ne_of_none ho1 hF0
      have ho2 : H2 o = _ := sb2 _ _ noF (sP _ _ (sF _ _ ho1))
      have hdrop : (as.map (pairAt (upd H1 F0 (.lst [])))).drop i = pairAt (upd H1 F0 (.lst [])) qa :: (as.map (pairAt (upd H1 F0 (.lst [])))).drop (i + 1) := by
        have h1 : (as.map (pairAt (upd H1 F0 (.lst []))))[i]? = some (pairAt (upd H1 F0 (.lst [])) qa) := by rw [List.getElem?_map, hqa]; rfl
        obtain ⟨h2, h3⟩ := List.getElem?_eq_some_iff.mp h1
        rw [List.drop_eq_getElem_cons h2, h3]
      rw [hdrop] at hscan
      revert hq2 hvo hscan hos hdrop hcB
      generalize pairAt (upd H1 F0 (.lst [])) qa = c
      intro hscan hq2 hcB hos hvo hdrop
      refine ⟨_, rfl, Nat.zero_le _, fun e0 he0 => ?_⟩
      have se := same_new (o := .lst []) he0
      have eF3 := se _ _ eF
      have hus3 : All2 (FrAt (upd H2 e0 (.lst []))) us (Fc.map fun c => (c, (look B c).getD [])) := all2_mono (fun v e => frAt_same (fr_sub.trans se)) hus
      refine ⟨.list ((Fc.map fun c => (c, (look B c).getD [])).map dFr), .list [], .lst (SqL.of eF3) (all2_dpa (f := dFr) (fun v e h => frAt_dp h) hus3), .lst (SqL.of upd_same) .nil, shaped_frs _, rfl, _, rfl, ?_⟩
      rw [eqv_nilA]
      have comb : ∀ {U1 U2 U3 : Prop}, (Fc ≠ [] → (keepsB Fc c = true → U1) → (keepsB Fc c = false → U2) → U3) → (keepsB Fc c = true → U1) → (keepsB Fc c = false → U2) →
          if ((Fc.map fun c => (c, (look B c).getD [])).map dFr).isEmpty = true then (if true = true then U1 else U2) else U3 := fun h1 hA hB => by
        by_cases hne : Fc = []
        · subst hne
          exact iteT (iteT (hA rfl))
        · have e : ((Fc.map fun c => (c, (look B c).getD [])).map dFr).isEmpty = false := by
            cases Fc with
            | nil => exact absurd rfl hne
            | cons x r => rfl
          rw [e]
          exact iteF (h1 hne hA hB)
      have hq3 := se _ _ hq2
      have hb4 := se _ _ hb3
      have ho3 := se _ _ ho2
      refine comb (fun hne hA hB => ?_) (fun hk => ?_) (fun hk => ?_)
      · obtain ⟨F', m, rfl⟩ : ∃ F' m, Fc = F' ++ [m] := ⟨Fc.dropLast, Fc.getLast hne, (List.dropLast_concat_getLast hne).symm⟩
        have hul2 : us.length = (F' ++ [m]).length := by
          have := all2_len hus
          rw [List.length_map] at this
          exact this
        have hune : us ≠ [] := fun z => by
          rw [z, List.length_append] at hul2
          simp at hul2
        obtain ⟨u', vl, rfl⟩ : ∃ u' vl, us = u' ++ [vl] := ⟨us.dropLast, us.getLast hune, (List.dropLast_concat_getLast hune).symm⟩
        have hul3 : u'.length = F'.length := by
          rw [List.length_append, List.length_append] at hul2
          simpa using hul2
        obtain ⟨e, he, t, o', rfl, ht, _⟩ := all2_at hus3 (i := u'.length) (a := vl) (by simp)
        have ee : e = (m, (look B m).getD []) := by
          rw [List.map_append, hul3, List.getElem?_append_right (by rw [List.length_map]; exact Nat.le_refl _), List.length_map, Nat.sub_self] at he
          exact (Option.some.inj he).symm
        subst ee
        have el : keepsB (F' ++ [m]) c = decide (c.2 < m.2) := by
          unfold keepsB lastOf
          simp
        rw [el] at hA hB
        refine ⟨_, rfl, qa, _, 1, _, rfl, rfl, SqT.of hq3, atI_nat (j := 1) rfl, _, rfl, _, rfl, F0, _, -1, .ref t, rfl, rfl, SqL.of eF3, atI_last _ _, t, _, 1, _, rfl, rfl, SqT.of ht, atI_nat (j := 1) rfl, _, _, rfl, rfl, _, rfl, ?_⟩
        show if decide (c.2 < m.2) = true then _ else _
        by_cases hlt2 : c.2 < m.2
        · exact ifd_t hlt2 (hA (decide_eq_true hlt2))
        · exact ifd_f hlt2 (hB (decide_eq_false hlt2))
      · have hlen : us.length < sizeLine := by
          refine Nat.lt_of_le_of_lt hul ?_
          have h1 := hperm.length_eq
          rw [List.length_map, List.length_map] at h1
          exact Nat.lt_of_le_of_lt (by omega : i ≤ 1000000) (by decide)
        refine ⟨_, rfl, .inl ⟨rfl, _, SqL.of eF3⟩, _, rfl, qa, _, 0, _, rfl, rfl, SqT.of hq3, atI_nat (j := 0) rfl, _, rfl, qa, _, 1, _, rfl, rfl, SqT.of hq3, atI_nat (j := 1) rfl, _, rfl, _, rfl, b, .ref o, rfl, by rw [← hvo]; exact DGet.t (k := keyOf c) hb4 hq3, o, _, rfl, .inl (SqL.of ho3), fun o2 ho2' => ?_⟩
        have t1 := same_new (o := HO.lst ((nints os).map V.int)) ho2'
        refine ⟨(by show 3 ≤ sizeLine; decide), fun t ht => ?_⟩
        have t2 := same_new (o := HO.tup [.int c.1, .int c.2, .ref o2]) ht
        have t12 := se.trans (t1.trans t2)
        have nFo : o2 ≠ F0 := (ne_of_none eF3 ho2').symm
        have nFt : t ≠ F0 := (ne_of_none (t1 _ _ eF3) ht).symm
        refine ⟨F0, us, .ref t, rfl, rfl, t12 _ _ eF, hlen, ?_⟩
        have sB3 : SameBut F0 H2 (upd (upd (upd (upd H2 e0 (.lst [])) o2 (HO.lst ((nints os).map V.int))) t (HO.tup [.int c.1, .int c.2, .ref o2])) F0 (.lst (us ++ [.ref t]))) := sb_upd (sb_of t12)
        have sHH : Same H H2 := same_sb s13 hF0' sb2
        refine ⟨sb_trans sb2 sB3, us ++ [.ref t], Fc ++ [c], _, rfl, upd_same, by rw [List.length_append]; show us.length + 1 ≤ i + 1; omega, by rw [hscan, scan_keep hk], ?_⟩
        rw [List.map_append]
        refine all2_snoc ⟨t, o2, rfl, fr_at nFt (sHH.free (se.free (t1.free ht))) (by rw [upd_ne nFt, upd_same]), fr_at nFo (sHH.free (se.free ho2')) ?_⟩ (all2_mono (fun v e => frAt_same (fr_step sB3)) hus)
        have eos : (look B c).getD [] = os := by rw [hos]; rfl
        show _ = some (HO.lst ((nints ((look B c).getD [])).map V.int))
        rw [upd_ne nFo, t2 _ _ upd_same, eos]
      · refine ⟨sb_trans sb2 (sb_of se), us, Fc, _, rfl, eF3, by omega, by rw [hscan, scan_drop hk], all2_mono (fun v e => frAt_same (fr_step (sb_of se))) hus⟩
    · rintro σ H2 ⟨sb2, us, Fc, v4, rfl, eF, hul, hscan, hus⟩
      rw [List.drop_of_length_le (by rw [List.length_map, List.length_map]; exact Nat.le_refl _)] at hscan
      have e0 : scan (lastOf Fc) [] = [] := by cases lastOf Fc <;> rfl
      rw [e0, List.append_nil] at hscan
      rw [hscan] at hFr
      refine ⟨_, rfl, q H2 F0 us _ (same_sb s13 hF0' sb2) hF0' eF hus hFr ?_⟩
      rw [← all2_len hus]
      have h1 := hperm.length_eq
      rw [List.length_map, List.length_map] at h1
      rw [List.length_map] at hul
      omega
end
end Ag

namespace Ag
open PySem PySem.Spec PyProof.Rows L2
/-! ### served_in -/
abbrev s_served_in : Stmt := top 18
def sp_served_in (K : PySem.W.Frag) : Sp := fun vs H Q _ => ∃ (v u o : V) (d : Disk) (l : List Ask) (os : List Nat), vs = [v, u, o] ∧ Dp K H v (dDisk d) ∧ Dp K H u (dAsks l) ∧ Dp K H o (.list ((nints os).map PyData.int)) ∧ GoodDisk d ∧ (∀ i ∈ os, i < l.length) ∧ os.length ≤ 1000 ∧
  ∀ (H' : Hp) (p : Addr) (xs : List V), Same H H' → H p = none → H' p = some (.lst xs) → DpAll K (fr H H' p) xs ((rowsOf d l 0 d.he os).map dRow) → Q (.ref p) H'
theorem sc_served_in : FnScope ["disk", "asks", "order", "now", "here", "found", "number"] ["disk", "asks", "order"] (defScope s_served_in) := ⟨rfl, rfl, rfl, by decide +kernel, rfl, by decide +kernel, by decide +kernel⟩
section
variable {P : Program} {w : World} {K : PySem.W.Frag} {mg : Str → Option Value} {base : Heap}
theorem ok_served_in {f fS : Addr} {fd fdS : FuncData} (F : Fun K "served_in" "served_in" s_served_in f fd) (GS : FnOk P w K mg base CX0 1 fS fdS ["disk", "now", "here", "ask"] (sp_served K)) (gS : mg "served" = some (.ref fS)) (kS : PySem.W.keepIn K (.ref fS) = true) (bS : Binds K fdS ["disk", "now", "here", "ask"] []) :
    FnOk P w K mg base CX0 2 f fd ["disk", "asks", "order"] (sp_served_in K) := by
  refine F.ok sc_served_in (fun vs H Q E h => ?_) (fun cdv A outer s H vs Q E hr h => ?_)
  · obtain ⟨v, u, o, d, l, os, rfl, _⟩ := h
    rfl
  · obtain ⟨v, u, o, d, l, os, rfl, hd, ha, ho, g, hin, hlen, q⟩ := h
    obtain ⟨a, rfl, hT⟩ := dp_disk hd
    obtain ⟨b, xs, rfl, hL, hxl, hat⟩ := dp_asks ha
    obtain ⟨c, rfl, hO⟩ := dp_ints ho
    have nd := sc_served_in.nd
    have hr1 : Room 1 _ := hr
    refine ⟨_, pss_cons (ps_set (i := 3) nd rfl (.inl rfl) pe_int)
      (pss_cons (ps_set (i := 4) nd rfl (.inl rfl) (pe_ix ix_tup (pv 0) pe_int (fun _ _ => rfl)))
      (pss_cons (ps_set (i := 5) nd rfl (.inl rfl) (pe_lst pa_nil))
      (pss_cons (ps_for PassesOwn.never rfl (pi_list (pv 2)) (pg_name (i := 6) nd rfl (.inl rfl))
        (pss_cons (ps_set (i := 3) nd rfl (.inl rfl) (pe_call GS hr1 rfl gS kS bS .nil pass0 (pa_cons (pv 0) (pa_cons (pv 3) (pa_cons (pv 4) (pa_cons (pe_ix ix_list (pv 1) (pv 6) (fun _ _ => rfl)) pa_nil))))))
        (pss_cons (ps_set (i := 4) nd rfl (.inl rfl) (pe_ix ix_tup (pe_ix ix_list (pv 1) (pv 6) (fun _ _ => rfl)) pe_int (fun _ _ => rfl)))
        (pss_one (ps_expr (pe_bm PySem.F.plainAttrs_list PySem.F.slot_list_append PySem.F.type_list_append mt_append (pv 5) (pa_cons (pe_tup (pa_cons (pv 6) (pa_cons (pv 3) pa_nil))) pa_nil)))))))
      (pss_one (ps_ret (pv 5)))))), ?_⟩
    refine ⟨_, rfl, a, _, 3, _, rfl, rfl, hT, atI_nat (j := 3) rfl, Nat.zero_le _, fun F hF => ?_⟩
    have s0 : Same H (upd H F (.lst [])) := same_new hF
    refine ⟨_, rfl, c, rfl, ⟨_, s0.seq hO⟩, for_list (K := K) (a := c) (xs := (nints os).map V.int)
      (fun i σ H' => Same H H' ∧ ∃ ys v6, σ = [some (.ref a), some (.ref b), some (.ref c), some (.int (endOf d l 0 d.he (os.take i)).1), some (.int (endOf d l 0 d.he (os.take i)).2), some (.ref F), v6] ∧
        H' F = some (.lst ys) ∧ ys.length = i ∧ DpAll K (fr H H' F) ys ((rowsOf d l 0 d.he (os.take i)).map dRow))
      ⟨s0, [], none, rfl, upd_same, rfl, .nil⟩ (fun i σ H' _ ⟨s1, _⟩ => s1.seq hO) ?_ ?_⟩
    · rintro i y σ H' hi ⟨s1, ys, v6, rfl, eF, hyl, hda⟩
      obtain ⟨n, hn, rfl⟩ := nints_at hi
      obtain ⟨k, hk⟩ : ∃ k, l[n]? = some k := ⟨_, List.getElem?_eq_getElem (hin n (List.mem_of_getElem? hn))⟩
      obtain ⟨p, hp, hpT, hpd⟩ := hat n k hk
      have ek : l.getD n (0, 0, 0) = k := getD_of hk
      have hlt : i < os.length := (List.getElem?_eq_some_iff.mp hn).1
      refine ⟨_, rfl, _, rfl, _, rfl, _, rfl, _, rfl, b, xs, (n : Int), .ref p, rfl, rfl, s1.seq hL, atI_nat hp, ?_⟩
      refine ⟨.ref a, .ref p, d, _, _, k, rfl, dp_same s1 hd, dp_same s1 hpd, g, ?_⟩
      refine ⟨_, rfl, _, rfl, b, xs, (n : Int), .ref p, rfl, rfl, s1.seq hL, atI_nat hp, p, _, 1, _, rfl, rfl, same_sqt s1 hpT, atI_nat (j := 1) rfl, ?_⟩
      refine ⟨_, rfl, .inl ⟨rfl, _, SqL.of eF⟩, _, rfl, _, rfl, (by show 2 ≤ sizeLine; decide), fun t ht => ?_⟩
      have nFt : F ≠ t := ne_of_none eF ht
      have hHt : H t = none := s1.free ht
      refine ⟨F, ys, .ref t, rfl, rfl, by rw [upd_ne nFt]; exact eF, small1000 (by omega), ?_⟩
      refine ⟨same_upd (same_upd s1 hHt) hF, ys ++ [.ref t], some (.int (n : Int)), ?_, upd_same, by rw [List.length_append, hyl]; rfl, ?_⟩
      · rw [take_more hn, endOf_snoc, ek]
        rfl
      · rw [take_more hn, rowsOf_snoc, ek, List.map_append]
        refine dpa_snoc (dpa_same (fr_step (sb_upd (sb_new sb_refl ht))) hda) ?_
        exact dp_tints_of (ns := [(n : Int), serve d (endOf d l 0 d.he (os.take i)).1 (endOf d l 0 d.he (os.take i)).2 k]) (.inl (.inl (fr_at nFt.symm hHt (by rw [upd_ne nFt.symm, upd_same]; rfl))))
    · rintro σ H' ⟨s1, ys, v6, rfl, eF, hyl, hda⟩
      have e : os.take ((nints os).map V.int).length = os := List.take_of_length_le (by rw [List.length_map, nints_len]; exact Nat.le_refl _)
      rw [e] at hda
      exact ⟨_, rfl, q H' F ys s1 hF eF hda⟩
end
/-! ### need_order -/
abbrev s_need_order : Stmt := top 20
def sp_need_order (K : PySem.W.Frag) : Sp := fun vs H Q _ => ∃ (u o : V) (l : List Ask) (os : List Nat), vs = [u, o] ∧ Dp K H u (dAsks l) ∧ Dp K H o (.list ((nints os).map PyData.int)) ∧ l.length ≤ 1000 ∧ os.Perm (List.range l.length) ∧
  ∀ H' : Hp, Same H H' → Q .non H'
theorem sc_need_order : FnScope ["asks", "order"] ["asks", "order"] (defScope s_need_order) := ⟨rfl, rfl, rfl, by decide +kernel, rfl, by decide +kernel, by decide +kernel⟩
section
variable {P : Program} {w : World} {K : PySem.W.Frag} {mg : Str → Option Value} {base : Heap}
theorem ok_need_order {f : Addr} {fd : FuncData} (F : Fun K "need_order" "need_order" s_need_order f fd) (ms : mg "sorted" = none) (ml : mg "list" = none) (mr : mg "range" = none) (mn : mg "len" = none) :
    FnOk P w K mg base CX0 1 f fd ["asks", "order"] (sp_need_order K) := by
  refine F.ok sc_need_order (fun vs H Q E h => ?_) (fun cdv A outer s H vs Q E hr h => ?_)
  · obtain ⟨u, o, l, os, rfl, _⟩ := h
    rfl
  · obtain ⟨u, o, l, os, rfl, ha, ho, hlen, hperm, q⟩ := h
    obtain ⟨b, xs, rfl, hL, hxl, hat⟩ := dp_asks ha
    obtain ⟨c, rfl, hO⟩ := dp_ints ho
    refine ⟨_, pss_one (ps_if (pt_cmpR (op_neD hr.units) (pe_callB cr_sortedI (by rfl) ms (by decide +kernel) (pa_cons (pv 1) pa_nil)) (pe_listRg rfl rfl ml (prg_1 rfl mr (pe_callB call_len_seq (by rfl) mn PySem.boot_len (pa_cons (pv 0) pa_nil)))) (nomark _))
      (pss_one ps_never) pss_nil), ?_⟩
    refine ⟨_, rfl, c, _, rfl, hO, fun ns' p perm rising hp => ?_⟩
    have en := rising_range perm hperm rising
    subst en
    have s1 : Same H (upd H p (.lst ((nints (List.range l.length)).map V.int))) := same_new hp
    refine ⟨_, rfl, b, xs, rfl, .inl (s1.seq hL), _, rfl, RgOk.of_le (by decide) (by rw [hxl]; omega) (by decide) (by omega), fun r hr => ?_⟩
    have s2 := same_new (o := .lst (rgV 0 (xs.length : Int))) hr
    have e2 : rgV 0 (xs.length : Int) = (nints (List.range l.length)).map V.int := by rw [hxl]; exact rg_nints _
    refine ⟨.list ((nints (List.range l.length)).map PyData.int), .list ((nints (List.range l.length)).map PyData.int), dp_ints_of (.inl (.inl (s2 _ _ upd_same))), dp_ints_of (.inl (.inl (by rw [upd_same, e2]))), shaped_ints _, shaped_ints _, _, rfl, ?_⟩
    rw [SeqAt.eqv_refl _ (SeqAt.canLay_of_shaped (shaped_ints _))]
    exact iteF (q _ (s1.trans s2))
end
/-! ### by_order -/
abbrev s_by_order : Stmt := top 21
def sp_by_order (K : PySem.W.Frag) : Sp := fun vs H Q _ => ∃ (v u o : V) (d : Disk) (l : List Ask) (os : List Nat), vs = [v, u, o] ∧ Dp K H v (dDisk d) ∧ Dp K H u (dAsks l) ∧ Dp K H o (.list ((nints os).map PyData.int)) ∧ GoodDisk d ∧ GoodAsks d l ∧ os.Perm (List.range l.length) ∧
  ∀ (H' : Hp) (p c t : Addr) (xs : List V), ResAt K H H' p c t xs (rowsOf d l 0 d.he os) (costsOf d l (rowsOf d l 0 d.he os)) → Q (.ref p) H'
theorem sc_by_order : FnScope ["disk", "asks", "order", "rows"] ["disk", "asks", "order"] (defScope s_by_order) := ⟨rfl, rfl, rfl, by decide +kernel, rfl, by decide +kernel, by decide +kernel⟩
section
variable {P : Program} {w : World} {K : PySem.W.Frag} {mg : Str → Option Value} {base : Heap}
theorem ok_by_order {f f1 f2 f3 f4 f5 : Addr} {fd fd1 fd2 fd3 fd4 fd5 : FuncData} (F : Fun K "by_order" "by_order" s_by_order f fd)
    (G1 : FnOk P w K mg base CX0 1 f1 fd1 ["disk"] (sp_need_disk K)) (g1 : mg "need_disk" = some (.ref f1)) (k1 : PySem.W.keepIn K (.ref f1) = true) (b1 : Binds K fd1 ["disk"] [])
    (G2 : FnOk P w K mg base CX0 1 f2 fd2 ["disk", "asks"] (sp_need_asks K)) (g2 : mg "need_asks" = some (.ref f2)) (k2 : PySem.W.keepIn K (.ref f2) = true) (b2 : Binds K fd2 ["disk", "asks"] [])
    (G3 : FnOk P w K mg base CX0 1 f3 fd3 ["asks", "order"] (sp_need_order K)) (g3 : mg "need_order" = some (.ref f3)) (k3 : PySem.W.keepIn K (.ref f3) = true) (b3 : Binds K fd3 ["asks", "order"] [])
    (G4 : FnOk P w K mg base CX0 2 f4 fd4 ["disk", "asks", "order"] (sp_served_in K)) (g4 : mg "served_in" = some (.ref f4)) (k4 : PySem.W.keepIn K (.ref f4) = true) (b4 : Binds K fd4 ["disk", "asks", "order"] [])
    (G5 : FnOk P w K mg base CX0 1 f5 fd5 ["disk", "asks", "rows"] (sp_costs_of K)) (g5 : mg "costs_of" = some (.ref f5)) (k5 : PySem.W.keepIn K (.ref f5) = true) (b5 : Binds K fd5 ["disk", "asks", "rows"] []) :
    FnOk P w K mg base CX0 3 f fd ["disk", "asks", "order"] (sp_by_order K) := by
  refine F.ok sc_by_order (fun vs H Q E h => ?_) (fun cdv A outer s H vs Q E hr h => ?_)
  · obtain ⟨v, u, o, d, l, os, rfl, _⟩ := h
    rfl
  · obtain ⟨v, u, o, d, l, os, rfl, hd, ha, ho, g, ga, hperm, q⟩ := h
    have nd := sc_by_order.nd
    have hr1 : Room 1 _ := hr.mono (by decide)
    have hl40 := ga.len
    have hmem : ∀ i ∈ os, i < l.length := fun i hi => List.mem_range.mp (hperm.mem_iff.mp hi)
    have hol : os.length = l.length := by rw [hperm.length_eq, List.length_range]
    refine ⟨_, pss_cons (ps_expr (pe_call G1 hr1 rfl g1 k1 b1 .nil pass0 (pa_cons (pv 0) pa_nil)))
      (pss_cons (ps_expr (pe_call G2 hr1 rfl g2 k2 b2 .nil pass0 (pa_cons (pv 0) (pa_cons (pv 1) pa_nil))))
      (pss_cons (ps_expr (pe_call G3 hr1 rfl g3 k3 b3 .nil pass0 (pa_cons (pv 1) (pa_cons (pv 2) pa_nil))))
      (pss_cons (ps_set (i := 3) nd rfl (.inl rfl) (pe_call G4 (hr.mono (by decide)) rfl g4 k4 b4 .nil pass0 (pa_cons (pv 0) (pa_cons (pv 1) (pa_cons (pv 2) pa_nil)))))
      (pss_one (ps_ret (pe_tup (pa_cons (pv 3) (pa_cons (pe_call G5 hr1 rfl g5 k5 b5 .nil pass0 (pa_cons (pv 0) (pa_cons (pv 1) (pa_cons (pv 3) pa_nil)))) pa_nil)))))))), ?_⟩
    refine ⟨_, rfl, v, d, rfl, hd, g, ?_⟩
    refine ⟨_, rfl, _, rfl, v, u, d, l, rfl, hd, ha, ga, ?_⟩
    refine ⟨_, rfl, _, rfl, u, o, l, os, rfl, ha, ho, by omega, hperm, fun H1 s1 => ?_⟩
    refine ⟨_, rfl, _, rfl, _, rfl, v, u, o, d, l, os, rfl, dp_same s1 hd, dp_same s1 ha, dp_same s1 ho, g, hmem, by omega, fun H2 c xs s2 hc0 hc hrows => ?_⟩
    have s12 := s1.trans s2
    refine ⟨_, rfl, _, rfl, _, rfl, _, rfl, v, u, .ref c, d, l, rowsOf d l 0 d.he os, rfl, dp_same s12 hd, dp_same s12 ha, .lst (.inl (.inl hc)) (dpa_same fr_sub hrows), ?_, by rw [rowsOf_len]; omega, fun H3 t s3 ht0 ht => ?_⟩
    · intro r hr
      have : r.1 ∈ (rowsOf d l 0 d.he os).map (·.1) := List.mem_map_of_mem hr
      rw [rowsOf_fst] at this
      exact hmem _ this
    · refine ⟨(by show 2 ≤ sizeLine; decide), fun p hp => ?_⟩
      have s4 : Same H3 (upd H3 p (.tup [.ref c, .ref t])) := same_new hp
      have s13 := s12.trans s3
      refine q _ p c t xs ⟨s13.trans s4, s13.free hp, s1.free hc0, s12.free ht0, upd_same, s4 _ _ (s3 _ _ hc), s4 _ _ ht, ?_⟩
      refine dpa_same ?_ hrows
      refine Same.trans (H1 := fr H H2 c) (fun b x e => ?_) (fr_step (sb_of (s3.trans s4)))
      unfold fr at e ⊢
      exact wo_mono (nw_earlier s1) b x e
end
end Ag

namespace Ag
open PySem PySem.Spec PyProof.Rows L2
/-! ### the law's draws: any number in range -/
abbrev s_l_taken : Stmt := top 43
def sp_l_taken (K : PySem.W.Frag) : Sp := fun vs H Q _ => ∃ (r : Addr) (many : Int), vs = [.ref r, .int many] ∧ RowAt K H r ∧ 0 < many ∧ ∀ (H' : Hp) (v : Int), 0 ≤ v → v < many → RowAt K H' r → SameBut r H H' → Q (.int v) H'
theorem sc_l_taken : FnScope ["_law_row", "_law_many", "_law_cell"] ["_law_row", "_law_many"] (defScope s_l_taken) := ⟨rfl, rfl, rfl, by decide +kernel, rfl, by decide +kernel, by decide +kernel⟩
section
variable {P : Program} {w : World} {K : PySem.W.Frag} {mg : Str → Option Value} {base : Heap}
theorem ok_l_taken {f : Addr} {fd : FuncData} (F : Fun K "_law_taken" "_law_taken" s_l_taken f fd) (ml : mg "len" = none) : FnOk P w K mg base CX0 1 f fd ["_law_row", "_law_many"] (sp_l_taken K) := by
  refine F.ok sc_l_taken (fun vs H Q E h => ?_) (fun cdv A outer s H vs Q E hr h => ?_)
  · obtain ⟨r, many, rfl, _⟩ := h
    rfl
  · obtain ⟨r, many, rfl, ⟨a, ns, pos, mix, p0, hR, hS⟩, hm, q⟩ := h
    have nd := sc_l_taken.nd
    refine ⟨_, pss_cons (ps_asg (pe_op op_add (pe_ix ix_list (pv 0) pe_int (fun _ _ => rfl)) pe_int) (pg_sub (pv 0) pe_int set_list))
      (pss_cons (ps_if (pt_cmpR op_gt (pe_ix ix_list (pv 0) pe_int (fun _ _ => rfl)) (pe_callB call_len_seq (by rfl) ml PySem.boot_len (pa_cons (pe_ix ix_list (pv 0) pe_int (fun _ _ => rfl)) pa_nil)) (nomark _))
        (pss_cons (ps_asg (pe_op op_mod (pe_op op_add (pe_op op_mul (pe_ix ix_list (pv 0) pe_int (fun _ _ => rfl)) pe_int) pe_int) pe_int) (pg_sub (pv 0) pe_int set_list))
          (pss_one (ps_ret (pe_op op_mod (pe_op op_fdiv (pe_ix ix_list (pv 0) pe_int (fun _ _ => rfl)) pe_int) (pv 1))))) pss_nil)
      (pss_cons (ps_set (i := 2) nd rfl (.inl rfl) (pe_ix ix_list (pe_ix ix_list (pv 0) pe_int (fun _ _ => rfl)) (pe_op op_sub (pe_ix ix_list (pv 0) pe_int (fun _ _ => rfl)) pe_int) (fun _ _ => rfl)))
      (pss_cons (ps_asg (pe_op op_mod (pe_op op_add (pe_op op_add (pe_op op_mul (pe_ix ix_list (pv 0) pe_int (fun _ _ => rfl)) pe_int) (pv 2)) pe_int) pe_int) (pg_sub (pv 0) pe_int set_list))
      (pss_one (ps_ret (pe_op op_mod (pv 2) (pv 1))))))), ?_⟩
    refine ⟨_, rfl, r, _, 1, _, rfl, rfl, SqL.of hR, atI_nat (j := 1) rfl, _, _, rfl, rfl, _, rfl, r, _, _, 1, rfl, rfl, hR, rfl, ?_⟩
    have h1 : upd H r (.lst ([V.ref a, .int pos, .int mix].set 1 (.int (pos + 1)))) r = some (.lst [V.ref a, .int (pos + 1), .int mix]) := upd_same
    have hS1 : ScrAt K (upd H r (.lst ([V.ref a, .int pos, .int mix].set 1 (.int (pos + 1))))) a ns := hS.put hR
    have b1 : SameBut r H (upd H r (.lst ([V.ref a, .int pos, .int mix].set 1 (.int (pos + 1))))) := sb_upd sb_refl
    revert h1 hS1 b1
    generalize upd H r (.lst ([V.ref a, .int pos, .int mix].set 1 (.int (pos + 1)))) = H1
    intro h1 hS1 b1
    refine ⟨_, rfl, r, _, 1, _, rfl, rfl, SqL.of h1, atI_nat (j := 1) rfl, _, rfl, r, _, 0, _, rfl, rfl, SqL.of h1, atI_nat (j := 0) rfl, a, _, rfl, .inl hS1.sql, _, _, rfl, rfl, _, rfl, if2d (fun _ => ?_) (fun hle => ?_)⟩
    · refine ⟨_, rfl, r, _, 2, _, rfl, rfl, SqL.of h1, atI_nat (j := 2) rfl, _, _, rfl, rfl, .inr ⟨by decide, by decide⟩, _, _, rfl, rfl, _, _, rfl, rfl, (by show (0 : Int) < 2147483647; decide), _, rfl, r, _, _, 2, rfl, rfl, h1, rfl, ?_⟩
      refine ⟨_, rfl, r, [V.ref a, .int (pos + 1), .int ((mix * 48271 + 11) % 2147483647)], 2, _, rfl, rfl, .inl (.inl upd_same), atI_nat (j := 2) rfl, _, _, rfl, rfl, ⟨by decide, by decide⟩, _, rfl, _, _, rfl, rfl, hm, ?_⟩
      refine q _ _ (Int.emod_nonneg _ (by omega)) (Int.emod_lt_of_pos _ hm) ⟨a, ns, pos + 1, _, by omega, upd_same, hS1.put h1⟩ (sb_upd b1)
    · rw [List.length_map] at hle
      have hlt : pos.toNat < ns.length := by omega
      obtain ⟨z, hz⟩ : ∃ z, ns[pos.toNat]? = some z := ⟨_, List.getElem?_eq_getElem hlt⟩
      refine ⟨_, rfl, r, _, 0, _, rfl, rfl, SqL.of h1, atI_nat (j := 0) rfl, _, rfl, r, _, 1, _, rfl, rfl, SqL.of h1, atI_nat (j := 1) rfl, _, _, rfl, rfl, a, _, _, .int z, rfl, rfl, hS1.sql, at_of (j := pos.toNat) (by omega) (by rw [List.getElem?_map, hz]; rfl), ?_⟩
      refine ⟨_, rfl, r, _, 2, _, rfl, rfl, SqL.of h1, atI_nat (j := 2) rfl, _, _, rfl, rfl, .inr ⟨by decide, by decide⟩, _, rfl, _, _, rfl, rfl, _, _, rfl, rfl, _, _, rfl, rfl, (by show (0 : Int) < 2147483647; decide), _, rfl, r, _, _, 2, rfl, rfl, h1, rfl, ?_⟩
      refine ⟨_, rfl, _, rfl, _, _, rfl, rfl, hm, ?_⟩
      refine q _ _ (Int.emod_nonneg _ (by omega)) (Int.emod_lt_of_pos _ hm) ⟨a, ns, pos + 1, _, by omega, upd_same, hS1.put h1⟩ (sb_upd b1)
end
/-! ### the law's disks: any good one -/
abbrev s_l_disk : Stmt := top 45
def sp_l_disk (K : PySem.W.Frag) : Sp := fun vs H Q _ => ∃ (r : Addr), vs = [.ref r] ∧ RowAt K H r ∧ ∀ (H' : Hp) (p : Addr) (d : Disk), GoodDisk d → RowAt K H' r → SameBut r H H' → p ≠ r → H' p = some (.tup ([d.tr, d.sc, d.pa, d.he].map V.int)) → Q (.ref p) H'
theorem sc_l_disk : FnScope ["_law_row", "_law_tracks", "_law_sectors"] ["_law_row"] (defScope s_l_disk) := ⟨rfl, rfl, rfl, by decide +kernel, rfl, by decide +kernel, by decide +kernel⟩
theorem row_keep {K : PySem.W.Frag} {H H' : Hp} {r p : Addr} {o : HO} (h : RowAt K H r) (e : H p = some o) (n : p ≠ r) (s : SameBut r H H') : H' p = some o := s _ _ n e
section
variable {P : Program} {w : World} {K : PySem.W.Frag} {mg : Str → Option Value} {base : Heap}
theorem ok_l_disk {f fT : Addr} {fd fdT : FuncData} (F : Fun K "_law_disk" "_law_disk" s_l_disk f fd) (GT : FnOk P w K mg base CX0 1 fT fdT ["_law_row", "_law_many"] (sp_l_taken K)) (gT : mg "_law_taken" = some (.ref fT)) (kT : PySem.W.keepIn K (.ref fT) = true) (bT : Binds K fdT ["_law_row", "_law_many"] []) :
    FnOk P w K mg base CX0 2 f fd ["_law_row"] (sp_l_disk K) := by
  refine F.ok sc_l_disk (fun vs H Q E h => ?_) (fun cdv A outer s H vs Q E hr h => ?_)
  · obtain ⟨r, rfl, _⟩ := h
    rfl
  · obtain ⟨r, rfl, hR, q⟩ := h
    have nd := sc_l_disk.nd
    have hr1 : Room 1 _ := hr
    refine ⟨_, pss_cons (ps_set (i := 1) nd rfl (.inl rfl) (pe_op op_add pe_int (pe_call GT hr1 rfl gT kT bT .nil pass0 (pa_cons (pv 0) (pa_cons (pe_ix ix_list (pe_lst (pa_cons pe_int (pa_cons pe_int pa_nil))) (pe_call GT hr1 rfl gT kT bT .nil pass0 (pa_cons (pv 0) (pa_cons pe_int pa_nil))) (fun _ _ => rfl)) pa_nil)))))
      (pss_cons (ps_set (i := 2) nd rfl (.inl rfl) (pe_op op_add pe_int (pe_call GT hr1 rfl gT kT bT .nil pass0 (pa_cons (pv 0) (pa_cons (pe_ix ix_list (pe_lst (pa_cons pe_int (pa_cons pe_int pa_nil))) (pe_call GT hr1 rfl gT kT bT .nil pass0 (pa_cons (pv 0) (pa_cons pe_int pa_nil))) (fun _ _ => rfl)) pa_nil)))))
      (pss_one (ps_ret (pe_tup (pa_cons (pv 1) (pa_cons (pv 2) (pa_cons (pe_op op_add pe_int (pe_call GT hr1 rfl gT kT bT .nil pass0 (pa_cons (pv 0) (pa_cons pe_int pa_nil)))) (pa_cons (pe_call GT hr1 rfl gT kT bT .nil pass0 (pa_cons (pv 0) (pa_cons (pv 1) pa_nil))) pa_nil)))))))), ?_⟩
    refine ⟨_, rfl, (by show 2 ≤ sizeLine; decide), fun L hL => ?_⟩
    have nL := hR.ne hL
    refine ⟨_, rfl, r, 2, rfl, hR.but (same_new hL), by decide, fun H1 v v0 v1 hR1 s1 => ?_⟩
    have eL : H1 L = some (.lst [.int 8, .int 64]) := s1 _ _ nL upd_same
    have sb1 : SameBut r H H1 := sb_trans (sb_of (same_new hL)) s1
    obtain ⟨k, hk, k8⟩ : ∃ k : Int, atI [V.int 8, .int 64] v = some (.int k) ∧ (1 ≤ k ∧ k ≤ 64) := by
      rcases (by omega : v = 0 ∨ v = 1) with rfl | rfl
      · exact ⟨8, rfl, by decide⟩
      · exact ⟨64, rfl, by decide⟩
    refine ⟨L, _, v, _, rfl, rfl, SqL.of eL, hk, r, k, rfl, hR1, by omega, fun H2 v2 v20 v21 hR2 s2 => ?_⟩
    have sb2 := sb_trans sb1 s2
    refine ⟨_, _, rfl, rfl, ?_⟩
    refine ⟨_, rfl, (by show 2 ≤ sizeLine; decide), fun L2 hL2 => ?_⟩
    have nL2 := hR2.ne hL2
    refine ⟨_, rfl, r, 2, rfl, hR2.but (same_new hL2), by decide, fun H3 v3 v30 v31 hR3 s3 => ?_⟩
    have eL2 : H3 L2 = some (.lst [.int 4, .int 16]) := s3 _ _ nL2 upd_same
    have sb3 : SameBut r H H3 := sb_trans sb2 (sb_trans (sb_of (same_new hL2)) s3)
    obtain ⟨k2, hk2, k28⟩ : ∃ k : Int, atI [V.int 4, .int 16] v3 = some (.int k) ∧ (1 ≤ k ∧ k ≤ 16) := by
      rcases (by omega : v3 = 0 ∨ v3 = 1) with rfl | rfl
      · exact ⟨4, rfl, by decide⟩
      · exact ⟨16, rfl, by decide⟩
    refine ⟨L2, _, v3, _, rfl, rfl, SqL.of eL2, hk2, r, k2, rfl, hR3, by omega, fun H4 v4 v40 v41 hR4 s4 => ?_⟩
    have sb4 := sb_trans sb3 s4
    refine ⟨_, _, rfl, rfl, ?_⟩
    refine ⟨_, rfl, _, rfl, _, rfl, r, 4, rfl, hR4, by decide, fun H5 v5 v50 v51 hR5 s5 => ?_⟩
    refine ⟨_, _, rfl, rfl, _, rfl, _, rfl, r, 1 + v2, rfl, hR5, by omega, fun H6 v6 v60 v61 hR6 s6 => ?_⟩
    refine ⟨(by show 4 ≤ sizeLine; decide), fun p hp => ?_⟩
    have sb6 := sb_trans sb4 (sb_trans s5 s6)
    exact q _ p ⟨1 + v2, 1 + v4, 1 + v5, v6⟩ ⟨by show 1 ≤ 1 + v2; omega, by show 1 + v2 ≤ 64; omega, by show 1 ≤ 1 + v4; omega, by show 1 + v4 ≤ 16; omega, by show 1 ≤ 1 + v5; omega, by show 1 + v5 ≤ 4; omega, v60, v61⟩
      (hR6.but (same_new hp)) (sb_new sb6 hp) (hR6.ne hp) upd_same
end
/-! ### the law's asks: any good ones, no more than it says -/
abbrev s_l_asks : Stmt := top 46
def sp_l_asks (K : PySem.W.Frag) : Sp := fun vs H Q _ => ∃ (r : Addr) (v : V) (d : Disk) (most : Int), vs = [.ref r, v, .int most] ∧ RowAt K H r ∧ Dp K (wo H r) v (dDisk d) ∧ GoodDisk d ∧ 0 ≤ most ∧ most ≤ 40 ∧
  ∀ (H' : Hp) (p : Addr) (l : List Ask) (xs : List V), GoodAsks d l → (l.length : Int) ≤ most → RowAt K H' r → SameBut r H H' → p ≠ r → H p = none → H' p = some (.lst xs) → DpAll K (wo (wo H' r) p) xs (l.map dAsk) → Q (.ref p) H'
theorem sc_l_asks : FnScope ["_law_row", "_law_disk_here", "_law_most", "_law_often", "_law_few", "_law_found", "_law_k"] ["_law_row", "_law_disk_here", "_law_most"] (defScope s_l_asks) := ⟨rfl, rfl, rfl, by decide +kernel, rfl, by decide +kernel, by decide +kernel⟩
section
variable {P : Program} {w : World} {K : PySem.W.Frag} {mg : Str → Option Value} {base : Heap}
theorem ok_l_asks {f fT : Addr} {fd fdT : FuncData} (F : Fun K "_law_asks" "_law_asks" s_l_asks f fd) (GT : FnOk P w K mg base CX0 1 fT fdT ["_law_row", "_law_many"] (sp_l_taken K)) (gT : mg "_law_taken" = some (.ref fT)) (kT : PySem.W.keepIn K (.ref fT) = true) (bT : Binds K fdT ["_law_row", "_law_many"] [])
    (mm : mg "min" = none) (mr : mg "range" = none) : FnOk P w K mg base CX0 2 f fd ["_law_row", "_law_disk_here", "_law_most"] (sp_l_asks K) := by
  refine F.ok sc_l_asks (fun vs H Q E h => ?_) (fun cdv A outer s H vs Q E hr h => ?_)
  · obtain ⟨r, v, d, most, rfl, _⟩ := h
    rfl
  · obtain ⟨r, v, d, most, rfl, hR, hd, g, m0, m40, q⟩ := h
    obtain ⟨a, rfl, hT⟩ := dp_disk hd
    have nd := sc_l_asks.nd
    have hr1 : Room 1 _ := hr
    have hTB : ∀ {H' : Hp}, SameBut r H H' → SqT K H' a [.int d.tr, .int d.sc, .int d.pa, .int d.he] := fun s => same_sqt wo_sub (same_sqt (sb_wo s) hT)
    refine ⟨_, pss_cons (ps_set (i := 3) nd rfl (.inl rfl) (pe_ix ix_list (pe_lst (pa_cons pe_int (pa_cons pe_int (pa_cons pe_int (pa_cons pe_int pa_nil))))) (pe_call GT hr1 rfl gT kT bT .nil pass0 (pa_cons (pv 0) (pa_cons pe_int pa_nil))) (fun _ _ => rfl)))
      (pss_cons (ps_set (i := 4) nd rfl (.inl rfl) (pe_ix ix_list (pe_lst (pa_cons (pe_ix ix_tup (pv 1) pe_int (fun _ _ => rfl)) (pa_cons (pe_callB (call_min2 rfl) (by rfl) mm (by decide +kernel) (pa_cons (pe_ix ix_tup (pv 1) pe_int (fun _ _ => rfl)) (pa_cons pe_int pa_nil))) pa_nil))) (pe_call GT hr1 rfl gT kT bT .nil pass0 (pa_cons (pv 0) (pa_cons pe_int pa_nil))) (fun _ _ => rfl)))
      (pss_cons (ps_set (i := 5) nd rfl (.inl rfl) (pe_lst pa_nil))
      (pss_cons (ps_for PassesOwn.never rfl (pi_range1 rfl mr (pa_cons (pe_call GT hr1 rfl gT kT bT .nil pass0 (pa_cons (pv 0) (pa_cons (pe_op op_add (pv 2) pe_int) pa_nil))) pa_nil)) (pg_name (i := 6) nd rfl (.inl rfl))
        (pss_one (ps_expr (pe_bm PySem.F.plainAttrs_list PySem.F.slot_list_append PySem.F.type_list_append mt_append (pv 5) (pa_cons (pe_tup (pa_cons (pe_call GT hr1 rfl gT kT bT .nil pass0 (pa_cons (pv 0) (pa_cons (pv 3) pa_nil))) (pa_cons (pe_call GT hr1 rfl gT kT bT .nil pass0 (pa_cons (pv 0) (pa_cons (pv 4) pa_nil)))
          (pa_cons (pe_call GT hr1 rfl gT kT bT .nil pass0 (pa_cons (pv 0) (pa_cons (pe_ix ix_tup (pv 1) pe_int (fun _ _ => rfl)) pa_nil))) pa_nil)))) pa_nil)))))
      (pss_one (ps_ret (pv 5)))))), ?_⟩
    refine ⟨(by show 4 ≤ sizeLine; decide), fun L hL => ?_⟩
    have nL := hR.ne hL
    refine ⟨_, rfl, r, 4, rfl, hR.but (same_new hL), by decide, fun H1 v v0 v1 hR1 s1 => ?_⟩
    have eL : H1 L = some (.lst [.int 1, .int 5, .int 60, .int 1000]) := s1 _ _ nL upd_same
    have sb1 : SameBut r H H1 := sb_trans (sb_of (same_new hL)) s1
    obtain ⟨k, hk, k8⟩ : ∃ k : Int, atI [V.int 1, .int 5, .int 60, .int 1000] v = some (.int k) ∧ (1 ≤ k ∧ k ≤ 1000) := by
      rcases (by omega : v = 0 ∨ v = 1 ∨ v = 2 ∨ v = 3) with rfl | rfl | rfl | rfl
      · exact ⟨1, rfl, by decide⟩
      · exact ⟨5, rfl, by decide⟩
      · exact ⟨60, rfl, by decide⟩
      · exact ⟨1000, rfl, by decide⟩
    refine ⟨L, _, v, _, rfl, rfl, SqL.of eL, hk, ?_⟩
    refine ⟨_, rfl, a, _, 0, _, rfl, rfl, hTB sb1, atI_nat (j := 0) rfl, _, rfl, a, _, 0, _, rfl, rfl, hTB sb1, atI_nat (j := 0) rfl, _, _, rfl, (by show 2 ≤ sizeLine; decide), fun L2 hL2 => ?_⟩
    have nL2 := hR1.ne hL2
    refine ⟨_, rfl, r, 2, rfl, hR1.but (same_new hL2), by decide, fun H2 v2 v20 v21 hR2 s2 => ?_⟩
    have eL2 : H2 L2 = some (.lst [.int d.tr, .int (if (4 : Int) < d.tr then 4 else d.tr)]) := s2 _ _ nL2 upd_same
    have sb2 : SameBut r H H2 := sb_trans sb1 (sb_trans (sb_of (same_new hL2)) s2)
    have ht1 := g.t1
    obtain ⟨k2, hk2, k28⟩ : ∃ k : Int, atI [V.int d.tr, .int (if (4 : Int) < d.tr then 4 else d.tr)] v2 = some (.int k) ∧ (1 ≤ k ∧ k ≤ d.tr) := by
      rcases (by omega : v2 = 0 ∨ v2 = 1) with rfl | rfl
      · exact ⟨d.tr, rfl, by omega⟩
      · exact ⟨_, rfl, by split <;> omega⟩
    refine ⟨L2, _, v2, _, rfl, rfl, SqL.of eL2, hk2, Nat.zero_le _, fun F hF => ?_⟩
    have nF := hR2.ne hF
    have hF0 : H F = none := sb_free sb2 nF hF
    refine ⟨_, rfl, _, rfl, _, _, rfl, rfl, r, most + 1, rfl, hR2.but (same_new hF), by omega, fun H3 n n0 n1 hR3 s3 => ?_⟩
    have sb3 : SameBut r H H3 := sb_trans sb2 (sb_trans (sb_of (same_new hF)) s3)
    have eF3 : H3 F = some (.lst []) := s3 _ _ nF upd_same
    refine ⟨n, rfl, by omega, by omega, ?_⟩
    refine for_range (lo := 0) (n := n.toNat) (fun i σ H' => RowAt K H' r ∧ SameBut r H H' ∧ ∃ (l : List Ask) (xs : List V) (v6 : Option V), σ = [some (.ref r), some (.ref a), some (.int most), some (.int k), some (.int k2), some (.ref F), v6] ∧
        l.length = i ∧ xs.length = i ∧ (∀ x ∈ l, GoodAsk d x) ∧ H' F = some (.lst xs) ∧ DpAll K (wo (wo H' r) F) xs (l.map dAsk)) ⟨hR3, sb3, [], [], none, rfl, rfl, rfl, fun x hx => absurd hx (by simp), eF3, .nil⟩ ?_ ?_
    · rintro i σ H' hi ⟨hR', sb', l, xs, v6, rfl, hl, hx, hg, eF, hda⟩
      refine ⟨_, rfl, .inl ⟨rfl, _, SqL.of eF⟩, ?_⟩
      refine ⟨_, rfl, _, rfl, r, k, rfl, hR', by omega, fun H4 c c0 c1 hR4 s4 => ?_⟩
      refine ⟨_, rfl, _, rfl, r, k2, rfl, hR4, by omega, fun H5 t t0 t1 hR5 s5 => ?_⟩
      have sb5 := sb_trans sb' (sb_trans s4 s5)
      refine ⟨_, rfl, _, rfl, a, _, 1, _, rfl, rfl, hTB sb5, atI_nat (j := 1) rfl, r, d.sc, rfl, hR5, (by have := g.s1; omega), fun H6 z z0 z1 hR6 s6 => ?_⟩
      refine ⟨(by show 3 ≤ sizeLine; decide), fun p hp => ?_⟩
      have sb6 := sb_trans sb5 s6
      have sF6 := sb_trans s4 (sb_trans s5 s6)
      have eF6 : H6 F = some (.lst xs) := sF6 _ _ nF eF
      have nFp : F ≠ p := ne_of_none eF6 hp
      have npr : p ≠ r := hR6.ne hp
      refine ⟨F, xs, .ref p, rfl, rfl, by rw [upd_ne nFp]; exact eF6, small1000 (by omega), ?_⟩
      refine ⟨(hR6.but (same_new hp)).put nF (by rw [upd_ne nFp]; exact eF6), sb_old (sb_new sb6 hp) hF0, l ++ [(c, t, z)], xs ++ [.ref p], some (.int (0 + (i : Int))), rfl, by rw [List.length_append, hl]; rfl, by rw [List.length_append, hx]; rfl, ?_, upd_same, ?_⟩
      · intro x hx'
        rcases List.mem_append.mp hx' with h | h
        · exact hg x h
        · rw [List.mem_singleton.mp h]
          exact ⟨c0, by show c ≤ 999; omega, t0, by show t < d.tr; omega, z0, z1⟩
      · rw [List.map_append]
        refine dpa_snoc (dpa_same ?_ hda) ?_
        · exact wo2_step fun b o n1 n2 e => by rw [upd_ne n2, upd_ne (ne_of_none (sF6 b o n1 e) hp)]; exact sF6 b o n1 e
        · exact dp_tints_of (ns := [c, t, z]) (.inl (.inl (by rw [wo_ne nFp.symm, wo_ne npr, upd_ne nFp.symm, upd_same]; rfl)))
    · rintro σ H' ⟨hR', sb', l, xs, v6, rfl, hl, hx, hg, eF, hda⟩
      exact ⟨_, rfl, q H' F l xs ⟨by omega, hg⟩ (by omega) hR' sb' nF hF0 eF hda⟩
end
end Ag

namespace Ag
open PySem PySem.Spec PyProof.Rows L2
/-! ### written -/
abbrev s_written : Stmt := top 39
def sp_written (K : PySem.W.Frag) : Sp := fun vs H Q _ => ∃ (v u : V) (d : Disk) (l : List Ask), vs = [v, u] ∧ Dp K H v (dDisk d) ∧ Dp K H u (dAsks l) ∧ GoodDisk d ∧ GoodAsks d l ∧ ∀ H', Same H H' → Q (.str (textS l)) H'
theorem sc_written : FnScope ["disk", "asks", "ask", "number"] ["disk", "asks"] (defScope s_written) := ⟨rfl, rfl, rfl, by decide +kernel, rfl, by decide +kernel, by decide +kernel⟩
section
variable {P : Program} {w : World} {K : PySem.W.Frag} {mg : Str → Option Value} {base : Heap}
theorem ok_written {f f1 f2 : Addr} {fd fd1 fd2 : FuncData} (F : Fun K "written" "written" s_written f fd)
    (G_need_disk : FnOk P w K mg base CX0 1 f1 fd1 ["disk"] (sp_need_disk K)) (C_need_disk : Cal K mg "need_disk" f1 fd1 ["disk"])
    (G_need_asks : FnOk P w K mg base CX0 1 f2 fd2 ["disk", "asks"] (sp_need_asks K)) (C_need_asks : Cal K mg "need_asks" f2 fd2 ["disk", "asks"])
    (mb_str : mg "str" = none) : FnOk P w K mg base CX0 2 f fd ["disk", "asks"] (sp_written K) := by
  refine F.ok sc_written (fun vs H Q E h => ?_) (fun cdv A outer s H vs Q E hr h => ?_)
  · obtain ⟨v, u, d, l, rfl, _⟩ := h
    rfl
  · obtain ⟨v, u, d, l, rfl, hd, ha, gd, g, q⟩ := h
    have nd := sc_written.nd
    have hr_need_disk : Room 1 _ := hr.mono (by decide)
    have hr_need_asks : Room 1 _ := hr.mono (by decide)
    obtain ⟨b, xs, rfl, hL, hlen, hat⟩ := dp_asks ha
    have h40 := g.len
    refine ⟨_, (pss_cons (ps_expr (pe_call G_need_disk hr_need_disk rfl C_need_disk.m C_need_disk.k C_need_disk.b .nil pass0 (pa_cons (pv 0) pa_nil)))
      (pss_cons (ps_expr (pe_call G_need_asks hr_need_asks rfl C_need_asks.m C_need_asks.k C_need_asks.b .nil pass0 (pa_cons (pv 0) (pa_cons (pv 1) pa_nil))))
      (pss_one (ps_ret (pe_join pe_str (pe_lc (own := [("ask", 2)]) (g := (gName 2)) (tt := tYes) rfl nd (pi_list (pv 1)) (blkOk_by (own := [("ask", 2)]) (N := ["disk", "asks", "ask", "number"]) (sc := defScope s_written) (by decide +kernel)) (fun _ _ _ _ _ => (pg_name (i := 2) nd rfl (.inl rfl))) (fun _ _ _ _ _ => pts_nil) (fun _ _ _ _ _ => (pe_joinK (K := K) pe_str (pe_lc (wi := iTup K (tVar 2)) (own := [("number", 3)]) (g := (gName 3)) (tt := tYes) rfl nd (pi_tup (pv 2)) (blkOk_by (own := [("number", 3)]) (N := ["disk", "asks", "ask", "number"]) (by show blkC _ (Scope.mk .function [(".0", .local), ("ask", .local)] false false []) _ _ = true; decide +kernel)) (fun _ _ _ _ _ => (pg_name (i := 3) nd rfl (.inl rfl))) (fun _ _ _ _ _ => pts_nil) (fun _ _ _ _ _ => (pe_callTy call_str_int (by rfl) mb_str (by decide +kernel) (pa_cons (pv 3) pa_nil)))))))))))), ?_⟩
    refine ⟨_, rfl, v, d, rfl, hd, gd, ?_⟩
    refine ⟨_, rfl, _, rfl, _, _, d, l, rfl, hd, ha, g, ?_⟩
    refine ⟨⟨_, rfl⟩, _, rfl, b, rfl, ⟨xs, hL⟩, fun D hD => ?_⟩
    have s1 := same_new (o := .lst []) hD
    have few : ∀ q ∈ l, ∀ n ∈ askNs q, Few n := fun q hq => askNs_few gd (g.all q hq)
    refine lc_list (K := K) (a := b) (xs := xs) (fun i H' => Same H H' ∧ H' D = some (.lst (((l.take i).map rowS).map V.str))) ⟨s1, upd_same⟩ (fun i H' _ ⟨s, _⟩ => s.seq hL) ?_ ?_
    · rintro i x H' hi ⟨s2, eD⟩
      have hlt : i < xs.length := (List.getElem?_eq_some_iff.mp hi).1
      obtain ⟨k, hk⟩ : ∃ k, l[i]? = some k := ⟨_, List.getElem?_eq_getElem (by omega)⟩
      obtain ⟨p, hp, hpT, _⟩ := hat i k hk
      obtain rfl : x = .ref p := Option.some.inj (hi.symm.trans hp)
      have fk := few k (List.mem_of_getElem? hk)
      refine ⟨rfl, ⟨_, rfl⟩, _, rfl, p, rfl, ⟨_, hpT.elim (fun h => same_sqt s2 (.inl h)) fun h => same_sqt s2 (.inr h)⟩, fun D2 hD2 => ?_⟩
      have sD2 := same_new (o := .lst []) hD2
      have nDD : D ≠ D2 := ne_of_none eD hD2
      refine lc_tup (K := K) (a := p) (xs := (askNs k).map V.int) (fun j H'' => Same H' H'' ∧ H'' D2 = some (.lst ((((askNs k).take j).map numS).map V.str))) ⟨sD2, upd_same⟩ (fun j H'' _ ⟨s, _⟩ => same_sqt (s2.trans s) hpT) ?_ ?_
      · rintro j x H'' hj ⟨s3, eD2⟩
        obtain ⟨n, hn, rfl⟩ : ∃ n, (askNs k)[j]? = some n ∧ x = .int n := by
          rw [List.getElem?_map] at hj
          cases e : (askNs k)[j]? with
          | none => rw [e] at hj; cases hj
          | some n => rw [e] at hj; exact ⟨n, rfl, (Option.some.inj hj).symm⟩
        have hj3 : j < 3 := (List.getElem?_eq_some_iff.mp hn).1
        refine ⟨rfl, _, rfl, n, rfl, log2_small (fk n (List.mem_of_getElem? hn)), _, eD2, ?_, same_upd s3 hD2, ?_⟩
        · rw [List.length_map, List.length_map, List.length_take]
          exact small1000 (by omega)
        · rw [upd_same, take_more hn, List.map_append, List.map_append]
          rfl
      · rintro H'' ⟨s3, eD2⟩
        have e3 : (askNs k).take ((askNs k).map V.int).length = askNs k := rfl
        rw [e3] at eD2
        refine ⟨_, D2, (askNs k).map numS, rfl, rfl, .inl (SqL.of eD2), ?_, ?_⟩
        · have := sum_len (k := 3) (ws := (askNs k).map numS) fun z hz => by
            obtain ⟨n, hn, rfl⟩ := List.mem_map.mp hz
            exact (numS_len (fk n hn)).2
          have e1 : ((askNs k).map numS).length = 3 := rfl
          have e2 : spS.length = 1 := by decide +kernel
          rw [e1] at this ⊢
          show _ + 3 * spS.length ≤ _
          rw [e2]
          omega
        · have eD3 := s3 _ _ eD
          refine ⟨_, eD3, ?_, same_upd (s2.trans s3) hD, ?_⟩
          · rw [List.length_map, List.length_map, List.length_take]
            exact small1000 (by omega)
          · rw [upd_same, take_more hk, List.map_append, List.map_append]
            rfl
    · rintro H' ⟨s2, eD⟩
      rw [List.take_of_length_le (by omega)] at eD
      refine ⟨_, D, l.map rowS, rfl, rfl, .inl (SqL.of eD), ?_, ?_⟩
      · have := sum_len (k := 11) (ws := l.map rowS) fun z hz => by
          obtain ⟨n, hn, rfl⟩ := List.mem_map.mp hz
          exact (rowS_len (few n hn)).2
        have e2 : nlS.length = 1 := by decide +kernel
        rw [List.length_map] at this ⊢
        show _ + l.length * nlS.length ≤ _
        rw [e2]
        omega
      · exact q _ s2
end
/-! ### number_of -/
abbrev s_number_of : Stmt := top 40
def sp_number_of (K : PySem.W.Frag) : Sp := fun vs H Q _ => ∃ (n row : Int), vs = [.str (numS n), .int row] ∧ Few n ∧ ∀ H', Same H H' → Q (.int n) H'
theorem sc_number_of : FnScope ["word", "row", "sign"] ["word", "row"] (defScope s_number_of) := ⟨rfl, rfl, rfl, by decide +kernel, rfl, by decide +kernel, by decide +kernel⟩
theorem rel_str {x : Str} {t : Tok} : RelV (.str x) (.str x t) := ⟨_, rfl⟩
section
variable {P : Program} {w : World} {K : PySem.W.Frag} {mg : Str → Option Value} {base : Heap}
theorem ok_number_of {f : Addr} {fd : FuncData} (F : Fun K "number_of" "number_of" s_number_of f fd) (mb_len : mg "len" = none) (mb_int : mg "int" = none) {t1 t2 : Tok} (mc_MOST_FIGURES : mg "MOST_FIGURES" = some (.int 3 t1))
    (mc_FIGURES : mg "FIGURES" = some (.str "0123456789" t2)) : FnOk P w K mg base CX0 1 f fd ["word", "row"] (sp_number_of K) := by
  refine F.ok sc_number_of (fun vs H Q E h => ?_) (fun cdv A outer s H vs Q E hr h => ?_)
  · obtain ⟨n, row, rfl, _⟩ := h
    rfl
  · obtain ⟨n, row, rfl, hn, q⟩ := h
    have nd := sc_number_of.nd
    obtain ⟨n1, n3⟩ := numS_len hn
    have nline : (numS n).length ≤ sizeLine := Nat.le_of_lt (small1000 (by omega))
    refine ⟨_, (pss_cons (ps_if (PW.pt (pw_or (pt_not (pt_chain op_le op_le pe_int (pe_callB call_len (by rfl) mb_len PySem.boot_len (pa_cons (pv 0) pa_nil)) (pe_glob rfl mc_MOST_FIGURES rel_int))) (pw_or1 (pt_cmpR (op_neD hr.units) (pe_lc (own := [("sign", 2)]) (g := (gName 2)) rfl nd (pi_str (pv 0)) (blkOk_by (own := [("sign", 2)]) (N := ["word", "row", "sign"]) (sc := defScope s_number_of) (by decide +kernel)) (fun _ _ _ _ _ => (pg_name (i := 2) nd rfl (.inl rfl))) (fun _ _ _ _ _ => (pts_one (pt_cmpR op_notIn_sign (pv 2) (pe_glob rfl mc_FIGURES rel_str) (by rfl)))) (fun _ _ _ _ _ => (pv 2))) (pe_lst pa_nil) (nomark _))))) (pss_one ps_never) pss_nil)
      (pss_cons (ps_if (PW.pt (pw_and (pt_cmpR op_eq (pe_ix ix_str (pv 0) pe_int (fun _ _ => rfl)) pe_str (nomark _)) (pw_and1 (pt_cmpR op_ne (pv 0) pe_str (nomark _))))) (pss_one ps_never) pss_nil)
      (pss_one (ps_ret (pe_callTy call_int_str (by rfl) mb_int (by decide +kernel) (pa_cons (pv 0) pa_nil)))))), ?_⟩
    refine ⟨_, rfl, _, _, rfl, ⟨nline, rfl⟩, ?_⟩
    refine ⟨_, _, rfl, rfl, _, rfl, ifd_t (by show (1 : Int) ≤ ((numS n).length : Int); omega) ⟨_, _, rfl, rfl, _, rfl, ifnd_t (by show ((numS n).length : Int) ≤ 3; omega) ?_⟩⟩
    refine ⟨_, rfl, _, rfl, fun D hD => ?_⟩
    have s1 := same_new (o := .lst []) hD
    refine lc_signs (fun i H' => Same H H' ∧ H' D = some (.lst [])) ⟨s1, upd_same⟩ ?_ ?_
    · rintro i c H' hc ⟨s2, eD⟩
      have hm : c ∈ TL.tl (numS n) := by
        rw [← Array.getElem?_toList] at hc
        exact List.mem_of_getElem? hc
      refine ⟨rfl, _, rfl, c, _, rfl, rfl, _, rfl, ?_⟩
      rw [decide_eq_true (figures (numS_sign hn hm))]
      exact iteF ⟨s2, eD⟩
    · rintro H' ⟨s2, eD⟩
      refine ⟨Nat.zero_le _, fun z hz => ?_⟩
      have s3 := same_new (o := .lst []) hz
      have s13 := s2.trans s3
      have e0 : PyData.eqv (.list []) (.list []) = true := by decide +kernel
      refine ⟨.list [], .list [], .lst (SqL.of (s3 _ _ eD)) .nil, .lst (SqL.of upd_same) .nil, rfl, rfl, ?_⟩
      rw [e0]
      refine ⟨_, rfl, iteF ?_⟩
      obtain ⟨c, hc, h0⟩ := numS_head hn
      have last : ∃ v, some (some (V.str (numS n))) = some (some v) ∧ ∃ a m, [v] = [V.str a] ∧ intText? a = some m ∧ a.length ≤ 640 ∧ Q (.int m) (upd H' z (.lst [])) := ⟨_, rfl, _, n, rfl, numS_int hn, by omega, q _ s13⟩
      refine ⟨_, rfl, _, _, c, rfl, rfl, nline, hc, rfl, _, rfl, if2d (fun e => ?_) (fun _ => last)⟩
      have e48 : c = 48 := by
        injection e with e
        have e2 := congrArg (fun z : Str => z.cps.toList) e
        have e3 : (Str.ofString "0").cps.toList = [48] := by decide +kernel
        have e4 : [c] = [48] := e2.trans e3
        injection e4
      exact ⟨_, rfl, rfl, _, rfl, ifnd_t (by rw [h0 e48]) last⟩
end
/-! ### read -/
abbrev s_read : Stmt := top 41
def sp_read (K : PySem.W.Frag) : Sp := fun vs H Q _ => ∃ (v : V) (d : Disk) (l : List Ask), vs = [v, .str (textS l)] ∧ Dp K H v (dDisk d) ∧ GoodDisk d ∧ GoodAsks d l ∧
  ∀ (H' : Hp) (p : Addr) (xs : List V), Same H H' → H p = none → H' p = some (.lst xs) → DpAll K H' xs (l.map dAsk) → Q (.ref p) H'
/-- the lines of a text of asks -/
theorem lines_join {l : List Ask} {σ : L2.St} {H : Hp} {G : VK} (few : ∀ q ∈ l, ∀ n ∈ askNs q, Few n) (h40 : l.length ≤ 40) (hσ : σ[1]? = some (some (.str (textS l)))) (h : ∀ D, H D = none → G (.ref D) (upd H D (.lst ((l.map rowS).map V.str)))) :
    tIf (tTest (tOp rNe (tVar 1) (tC (V.str (Str.ofString ""))))) (tM1 (fun x xs H Q => ∃ a b, x = V.str a ∧ xs = [V.str b] ∧ (b.length == 0) = false ∧ a.length + 2 ≤ sizeLine ∧ rNewStrs (Txt.split a b) H Q) (tVar 1) (tC (V.str (Str.ofString "\n"))))
      (tLst tNil) σ H G := by
  refine ⟨_, hσ, rfl, _, rfl, ?_⟩
  have h480 := textS_len few h40
  by_cases hl : l = []
  · subst hl
    refine ifnd_t (by rw [textS_nil]) ⟨Nat.zero_le _, h⟩
  · refine ifnd_f (fun e => ?_) ⟨_, hσ, ⟨_, rfl⟩, _, _, rfl, rfl, by decide +kernel, Nat.le_of_lt (small1000 (by omega)), ?_⟩
    · injection e with e
      exact textS_ne few hl e
    · show rNewStrs (Txt.split (textS l) nlS) H G
      rw [textS_split few hl]
      exact h
theorem sc_read : FnScope ["disk", "text", "found", "lines", "row", "words", "word"] ["disk", "text"] (defScope s_read) := ⟨rfl, rfl, rfl, by decide +kernel, rfl, by decide +kernel, by decide +kernel⟩
section
variable {P : Program} {w : World} {K : PySem.W.Frag} {mg : Str → Option Value} {base : Heap}
theorem ok_read {f f1 f2 f3 : Addr} {fd fd1 fd2 fd3 : FuncData} (F : Fun K "read" "read" s_read f fd)
    (G_need_disk : FnOk P w K mg base CX0 1 f1 fd1 ["disk"] (sp_need_disk K)) (C_need_disk : Cal K mg "need_disk" f1 fd1 ["disk"])
    (G_need_asks : FnOk P w K mg base CX0 1 f2 fd2 ["disk", "asks"] (sp_need_asks K)) (C_need_asks : Cal K mg "need_asks" f2 fd2 ["disk", "asks"])
    (G_number_of : FnOk P w K mg base CX0 1 f3 fd3 ["word", "row"] (sp_number_of K)) (C_number_of : Cal K mg "number_of" f3 fd3 ["word", "row"])
    (mb_len : mg "len" = none) (mb_range : mg "range" = none) (mb_tuple : mg "tuple" = none) : FnOk P w K mg base CX0 2 f fd ["disk", "text"] (sp_read K) := by
  refine F.ok sc_read (fun vs H Q E h => ?_) (fun cdv A outer s H vs Q E hr h => ?_)
  · obtain ⟨v, d, l, rfl, _⟩ := h
    rfl
  · obtain ⟨v, d, l, rfl, hd, gd, g, q⟩ := h
    have nd := sc_read.nd
    have hr_need_disk : Room 1 _ := hr.mono (by decide)
    have hr_need_asks : Room 1 _ := hr.mono (by decide)
    have hr_number_of : Room 1 _ := hr.mono (by decide)
    have few : ∀ q ∈ l, ∀ n ∈ askNs q, Few n := fun q hq => askNs_few gd (g.all q hq)
    have h40 := g.len
    have h480 := textS_len few h40
    refine ⟨_, (pss_cons (ps_expr (pe_call G_need_disk hr_need_disk rfl C_need_disk.m C_need_disk.k C_need_disk.b .nil pass0 (pa_cons (pv 0) pa_nil)))
      (pss_cons (ps_set (i := 2) nd rfl (.inl rfl) (pe_lst pa_nil))
      (pss_cons (ps_set (i := 3) nd rfl (.inl rfl) (pe_ifExp (pt_cmpR op_ne (pv 1) pe_str (nomark _)) (pe_split (pv 1) pe_str) (pe_lst pa_nil)))
      (pss_cons (ps_for PassesOwn.never rfl (pi_range1 rfl mb_range (pa_cons (pe_callB call_len_seq (by rfl) mb_len PySem.boot_len (pa_cons (pv 3) pa_nil)) pa_nil)) (pg_name (i := 4) nd rfl (.inr rfl))
        (pss_cons (ps_set (i := 5) nd rfl (.inl rfl) (pe_split (pe_ix (r := rIxL K) ix_list (pv 3) (pv 4) (fun _ _ => rfl)) pe_str))
      (pss_cons (ps_if (pt_cmpR op_ne (pe_callB call_len_seq (by rfl) mb_len PySem.boot_len (pa_cons (pv 5) pa_nil)) pe_int (nomark _)) (pss_one ps_never) pss_nil)
      (pss_one (ps_expr (pe_bm PySem.F.plainAttrs_list PySem.F.slot_list_append PySem.F.type_list_append mt_append (pv 2) (pa_cons (pe_tupleOf rfl mb_tuple (pe_lc (own := [("word", 6)]) (g := (gName 6)) (tt := tYes) rfl nd (pi_list (pv 5)) (blkOk_by (own := [("word", 6)]) (N := ["disk", "text", "found", "lines", "row", "words", "word"]) (sc := defScope s_read) (by decide +kernel)) (fun _ _ _ _ _ => (pg_name (i := 6) nd rfl (.inl rfl))) (fun _ _ _ _ _ => pts_nil) (fun _ _ _ _ _ => (pe_call G_number_of hr_number_of rfl C_number_of.m C_number_of.k C_number_of.b .nil pass0 (pa_cons (pv 6) (pa_cons (pv 4) pa_nil)))))) pa_nil)))))))
      (pss_cons (ps_expr (pe_call G_need_asks hr_need_asks rfl C_need_asks.m C_need_asks.k C_need_asks.b .nil pass0 (pa_cons (pv 0) (pa_cons (pv 2) pa_nil))))
      (pss_one (ps_ret (pv 2)))))))), ?_⟩
    refine ⟨_, rfl, v, d, rfl, hd, gd, ?_⟩
    refine ⟨Nat.zero_le _, fun F hF => ?_⟩
    have s1 := same_new (o := .lst []) hF
    refine lines_join few h40 rfl fun L hL => ?_
    have s2 := same_new (o := .lst ((l.map rowS).map V.str)) hL
    have nFL : F ≠ L := ne_of_none upd_same hL
    have hll : ((l.map rowS).map V.str).length = l.length := by rw [List.length_map, List.length_map]
    refine ⟨_, rfl, L, (l.map rowS).map V.str, rfl, .inl (SqL.of upd_same), l.length, by rw [hll], by omega, by omega, ?_⟩
    refine for_range (lo := 0) (n := l.length) (fun i σ H' => SameBut F (upd (upd H F (.lst [])) L (.lst ((l.map rowS).map V.str))) H' ∧ ∃ (xs : List V) (v4 v5 : Option V), σ = [some v, some (.str (textS l)), some (.ref F), some (.ref L), v4, v5, none] ∧
        xs.length = i ∧ H' F = some (.lst xs) ∧ DpAll K (wo H' F) xs ((l.take i).map dAsk)) ⟨sb_refl, [], none, none, rfl, rfl, s2 _ _ upd_same, .nil⟩ ?_ ?_
    · rintro i σ H' hi ⟨sb, xs, v4, v5, rfl, hx, eF, hda⟩
      obtain ⟨k, hk⟩ : ∃ k, l[i]? = some k := ⟨_, List.getElem?_eq_getElem hi⟩
      have fk := few k (List.mem_of_getElem? hk)
      have eL := sb _ _ nFL.symm upd_same
      refine ⟨_, rfl, _, rfl, L, _, (i : Int), .str (rowS k), rfl, by rw [Int.zero_add], SqL.of eL, atI_nat (by rw [List.getElem?_map, List.getElem?_map, hk]; rfl), ?_⟩
      have es : Txt.split (rowS k) (Str.ofString " ") = (askNs k).map numS := rowS_split fk
      have hrl := (rowS_len fk).2
      refine ⟨⟨_, rfl⟩, _, _, rfl, rfl, by decide +kernel, Nat.le_of_lt (small1000 (by omega)), ?_⟩
      rw [es]
      intro W hW
      have s3 := same_new (o := .lst (((askNs k).map numS).map V.str)) hW
      have eF3 := s3 _ _ eF
      have nFW : F ≠ W := ne_of_none eF hW
      have sF3 : SameBut F (upd (upd H F (.lst [])) L (.lst ((l.map rowS).map V.str))) (upd H' W (.lst (((askNs k).map numS).map V.str))) := sb_trans sb (sb_of s3)
      have hda3 : DpAll K (wo (upd H' W (.lst (((askNs k).map numS).map V.str))) F) xs ((l.take i).map dAsk) := dpa_same (wo_mono s3) hda
      have eW : upd H' W (.lst (((askNs k).map numS).map V.str)) W = some (.lst (((askNs k).map numS).map V.str)) := upd_same
      revert eF3 sF3 hda3 eW
      generalize upd H' W (.lst (((askNs k).map numS).map V.str)) = H3
      intro eF3 sF3 hda3 eW
      refine ⟨_, rfl, W, _, rfl, .inl (SqL.of eW), rfl, _, rfl, ifnd_t rfl ?_⟩
      refine ⟨_, rfl, .inl ⟨rfl, _, SqL.of eF3⟩, ?_⟩
      refine ⟨_, rfl, W, rfl, ⟨_, SqL.of eW⟩, fun D hD => ?_⟩
      have s4 := same_new (o := .lst []) hD
      refine lc_list (K := K) (a := W) (xs := ((askNs k).map numS).map V.str) (fun j H'' => Same H3 H'' ∧ H'' D = some (.lst (((askNs k).take j).map V.int))) ⟨s4, upd_same⟩ (fun j H'' _ ⟨s, _⟩ => s.seq (SqL.of eW)) ?_ ?_
      · rintro j x H'' hj ⟨s5, eD⟩
        obtain ⟨n, hn, rfl⟩ : ∃ n, (askNs k)[j]? = some n ∧ x = .str (numS n) := by
          rw [List.getElem?_map, List.getElem?_map] at hj
          cases e : (askNs k)[j]? with
          | none => rw [e] at hj; cases hj
          | some n => rw [e] at hj; exact ⟨n, rfl, (Option.some.inj hj).symm⟩
        have hj3 : j < 3 := (List.getElem?_eq_some_iff.mp hn).1
        refine ⟨rfl, _, rfl, _, rfl, n, _, rfl, fk n (List.mem_of_getElem? hn), fun H4 s6 => ⟨_, s6 _ _ eD, ?_, same_upd (s5.trans s6) hD, ?_⟩⟩
        · rw [List.length_map, List.length_take]
          exact small1000 (by omega)
        · rw [upd_same, take_more hn, List.map_append]
          rfl
      · rintro H'' ⟨s5, eD⟩
        have e3 : (askNs k).take (((askNs k).map numS).map V.str).length = askNs k := rfl
        rw [e3] at eD
        refine .inl ⟨D, _, rfl, SqL.of eD, fun p hp => ?_⟩
        have s6 := same_new (o := HO.tup ((askNs k).map V.int)) hp
        have s36 := s5.trans s6
        have eF6 := s36 _ _ eF3
        have nFp : F ≠ p := ne_of_none (s5 _ _ eF3) hp
        refine ⟨F, xs, .ref p, rfl, rfl, eF6, small1000 (by omega), ?_⟩
        refine ⟨sb_upd (sb_trans sF3 (sb_of s36)), xs ++ [.ref p], some (.int (0 + (i : Int))), some (.ref W), rfl, by rw [List.length_append, hx]; rfl, upd_same, ?_⟩
        rw [take_more hk, List.map_append]
        refine dpa_snoc (dpa_same (sb_wo (sb_upd (sb_of s36))) hda3) ?_
        exact dp_tints_of (ns := askNs k) (.inl (.inl (by rw [wo_ne nFp.symm, upd_ne nFp.symm, upd_same])))
    · rintro σ H' ⟨sb, xs, v4, v5, rfl, hx, eF, hda⟩
      rw [List.take_of_length_le (Nat.le_refl _)] at hda
      have s4 : Same H H' := same_sb (s1.trans s2 : Same H _) hF sb
      have hda' := dpa_same wo_sub hda
      exact ⟨_, rfl, _, rfl, v, _, d, l, rfl, dp_same s4 hd, .lst (SqL.of eF) hda', g, _, rfl, q H' F xs s4 hF eF hda'⟩
end
end Ag

namespace Ag
open PySem PySem.Spec PyProof.Rows L2
/-! ### the law's look at two answers: the same data is alike -/
abbrev s_l_alike : Stmt := top 44
def okD : Nat → PyData → Prop
  | 0, _ => False
  | n + 1, .list ds => ds.length ≤ 1000000 ∧ ∀ d ∈ ds, okD n d
  | n + 1, .tuple ds => ds.length ≤ 1000000 ∧ ∀ d ∈ ds, okD n d
  | _ + 1, .dict _ => False
  | _ + 1, _ => True
theorem okD_int (n : Nat) (i : Int) : okD (n + 1) (.int i) := by simp [okD]
theorem okD_str (n : Nat) (i : Str) : okD (n + 1) (.str i) := by simp [okD]
theorem okD_list {n : Nat} {ds : List PyData} (h : ds.length ≤ 1000000) (h2 : ∀ d ∈ ds, okD n d) : okD (n + 1) (.list ds) := by
  unfold okD
  exact ⟨h, h2⟩
theorem okD_tuple {n : Nat} {ds : List PyData} (h : ds.length ≤ 1000000) (h2 : ∀ d ∈ ds, okD n d) : okD (n + 1) (.tuple ds) := by
  unfold okD
  exact ⟨h, h2⟩
theorem okD_ints (n : Nat) (ns : List Int) : ∀ d ∈ ns.map PyData.int, okD (n + 1) d := fun d hd => by
  obtain ⟨i, _, rfl⟩ := List.mem_map.mp hd
  exact okD_int n i
def tyN : PyData → String
  | .none => "NoneType"
  | .bool _ => "bool"
  | .int _ => "int"
  | .str _ => "str"
  | .list _ => "list"
  | .tuple _ => "tuple"
  | .dict _ => "dict"
theorem dp_ty {K : PySem.W.Frag} {H : Hp} {x : V} : ∀ {d : PyData}, Dp K H x d → TyX K H x (.type (tyN d))
  | .none, h => by cases h; exact .base .non
  | .bool _, h => by cases h; exact .base (.bl _)
  | .int _, h => by cases h; exact .base (.int _)
  | .str _, h => by cases h; exact .base (.str _)
  | .list _, h => by
    cases h with
    | lst hs ha =>
      rcases hs with (h | ⟨o, h⟩) | ⟨o, its, n, h, c, _⟩
      · exact .base (.lst h)
      · exact .base (.frz h)
      · exact .kList h c
  | .tuple _, h => by
    cases h with
    | tup hs ha =>
      rcases hs with (h | ⟨o, h⟩) | ⟨o, its, n, h, c, _⟩
      · exact .base (.tup h)
      · exact .fTuple h
      · exact .kTuple h c
  | .dict _, h => by cases h
def sp_l_alike (n : Nat) (K : PySem.W.Frag) : Sp := fun vs H Q _ => ∃ (x y : V) (d : PyData), vs = [x, y] ∧ Dp K H x d ∧ Dp K H y d ∧ okD n d ∧ ∀ H' : Hp, Same H H' → Q (.bl true) H'
theorem sc_l_alike : FnScope ["_law_found", "_law_due", "_law_k"] ["_law_found", "_law_due"] (defScope s_l_alike) := ⟨rfl, rfl, rfl, by decide +kernel, rfl, by decide +kernel, by decide +kernel⟩
/-- length and items of a list or tuple that is read -/
theorem dp_seq {K : PySem.W.Frag} {H : Hp} {x : V} {ds : List PyData} (h : Dp K H x (.list ds) ∨ Dp K H x (.tuple ds)) : ∃ a xs, x = .ref a ∧ (SqL K H a xs ∨ SqT K H a xs) ∧ DpAll K H xs ds := by
  rcases h with h | h
  · obtain ⟨a, xs, e, h1, h2⟩ := dp_list h
    exact ⟨a, xs, e, .inl h1, h2⟩
  · obtain ⟨a, xs, e, h1, h2⟩ := dp_tuple h
    exact ⟨a, xs, e, .inr h1, h2⟩
theorem lenv_seq {K : PySem.W.Frag} {H : Hp} {a : Addr} {xs : List V} {n : Nat} (h : SqL K H a xs ∨ SqT K H a xs) (e : n = xs.length) : LenV K (.ref a) H n := by
  rcases h with h | h
  · exact .inl ⟨xs, h, e⟩
  · exact .inr ⟨xs, h, e⟩
theorem rix_seq {K : PySem.W.Frag} {H : Hp} {a : Addr} {xs : List V} {i : Int} {v : V} {Q : VK} (h : SqL K H a xs ∨ SqT K H a xs) (e : atI xs i = some v) (q : Q v H) : rIx K (.ref a) (.int i) H Q := by
  rcases h with h | h
  · exact .inl ⟨a, xs, i, v, rfl, rfl, h, e, q⟩
  · exact .inr (.inl ⟨a, xs, i, v, rfl, rfl, h, e, q⟩)
section
variable {P : Program} {w : World} {K : PySem.W.Frag} {mg : Str → Option Value} {base : Heap}
theorem kit_not {a b : String} {r : Bool} (h : kitB a b = some r) : PySem.W.kitOne K (.type a) (.type b) = some r := kit_ty h
set_option maxHeartbeats 16000000 in
theorem ok_l_alike {f : Addr} {fd : FuncData} (F : Fun K "_law_alike" "_law_alike" s_l_alike f fd) (bA : Binds K fd ["_law_found", "_law_due"] []) (gA : mg "_law_alike" = some (.ref f)) (mi : mg "isinstance" = none) (mt : mg "tuple" = none) (ml : mg "list" = none) (mb : mg "bool" = none) (ms : mg "str" = none) (mn : mg "int" = none)
    (me : mg "len" = none) (mr : mg "range" = none) : ∀ n : Nat, FnOk P w K mg base CX0 (n + 1) f fd ["_law_found", "_law_due"] (sp_l_alike n K)
  | 0 => by
    refine F.ok sc_l_alike (fun vs H Q E h => ?_) (fun cdv A outer s H vs Q E hr h => ?_)
    · obtain ⟨x, y, d, rfl, _⟩ := h
      rfl
    · obtain ⟨x, y, d, _, _, _, h, _⟩ := h
      unfold okD at h
      exact h.elim
  | n + 1 => by
    have G := ok_l_alike F bA gA mi mt ml mb ms mn me mr n
    refine F.ok sc_l_alike (fun vs H Q E h => ?_) (fun cdv A outer s H vs Q E hr h => ?_)
    · obtain ⟨x, y, d, rfl, _⟩ := h
      rfl
    · obtain ⟨x, y, d, rfl, hx, hy, hok, q⟩ := h
      have nd := sc_l_alike.nd
      refine ⟨_, pss_cons (ps_if (PW.pt (pw_or (pt_val (pe_callB call_isi (by rfl) mi (by decide +kernel) (pa_cons (pv 1) (pa_cons (pe_bltn (v := .ty "tuple") rfl mt (by decide +kernel) rfl) pa_nil))))
          (pw_or1 (pt_val (pe_callB call_isi (by rfl) mi (by decide +kernel) (pa_cons (pv 1) (pa_cons (pe_bltn (v := .ty "list") rfl ml (by decide +kernel) rfl) pa_nil)))))))
          (pss_cons (ps_if (PW.pt (pw_or (pt_cmpR op_ne (pe_callB call_isi (by rfl) mi (by decide +kernel) (pa_cons (pv 0) (pa_cons (pe_bltn (v := .ty "tuple") rfl mt (by decide +kernel) rfl) pa_nil))) (pe_callB call_isi (by rfl) mi (by decide +kernel) (pa_cons (pv 1) (pa_cons (pe_bltn (v := .ty "tuple") rfl mt (by decide +kernel) rfl) pa_nil))) (nomark _))
            (pw_or1 (pt_not (pt_val (pe_callB call_isiT (by rfl) mi (by decide +kernel) (pa_cons (pv 0) (pa_cons (pe_tup (pa_cons (pe_bltn (v := .ty "tuple") rfl mt (by decide +kernel) rfl) (pa_cons (pe_bltn (v := .ty "list") rfl ml (by decide +kernel) rfl) pa_nil))) pa_nil))))))))
            (pss_one ps_never) pss_nil)
          (pss_cons (ps_if (pt_cmpR op_ne (pe_callB call_len (by rfl) me PySem.boot_len (pa_cons (pv 0) pa_nil)) (pe_callB call_len (by rfl) me PySem.boot_len (pa_cons (pv 1) pa_nil)) (nomark _)) (pss_one ps_never) pss_nil)
          (pss_one (ps_ret (pe_cmpR (op_eqD hr.units) (pe_lc (own := [("_law_k", 2)]) (g := gName 2) rfl nd (pi_range1 rfl mr (pa_cons (pe_callB call_len (by rfl) me PySem.boot_len (pa_cons (pv 1) pa_nil)) pa_nil)) (blkOk_by (own := [("_law_k", 2)]) (N := ["_law_found", "_law_due", "_law_k"]) (sc := defScope s_l_alike) (by decide +kernel))
            (fun _ _ _ _ _ => pg_name (i := 2) nd rfl (Or.inl rfl))
            (fun _ _ _ _ _ => pts_one (pt_not (pt_val (pe_call G hr rfl gA F.kp bA .nil pass0 (pa_cons (pe_ix (r := rIx K) ix_seq (pv 0) (pv 2) (fun _ _ => rfl)) (pa_cons (pe_ix (r := rIx K) ix_seq (pv 1) (pv 2) (fun _ _ => rfl)) pa_nil))))))
            (fun _ _ _ _ _ => pv 2)) (pe_lst pa_nil) (nomark _)))))) pss_nil)
        (pss_cons (ps_if (PW.pt (pw_or (pt_cmpR op_isN (pv 1) pe_non (nomark _)) (pw_or1 (pt_cmpR op_isN (pv 0) pe_non (nomark _))))) (pss_one (ps_ret (pe_and (pe_cmpR op_isN (pv 1) pe_non (nomark _)) (pe_one (pe_cmpR op_isN (pv 0) pe_non (nomark _)))))) pss_nil)
        (pss_cons (ps_if (PW.pt (pw_or (pt_val (pe_callB call_isi (by rfl) mi (by decide +kernel) (pa_cons (pv 1) (pa_cons (pe_bltn (v := .ty "bool") rfl mb (by decide +kernel) rfl) pa_nil)))) (pw_or1 (pt_val (pe_callB call_isi (by rfl) mi (by decide +kernel) (pa_cons (pv 0) (pa_cons (pe_bltn (v := .ty "bool") rfl mb (by decide +kernel) rfl) pa_nil)))))))
          (pss_one (ps_ret (pe_and (pe_callB call_isi (by rfl) mi (by decide +kernel) (pa_cons (pv 1) (pa_cons (pe_bltn (v := .ty "bool") rfl mb (by decide +kernel) rfl) pa_nil))) (pe_and (pe_callB call_isi (by rfl) mi (by decide +kernel) (pa_cons (pv 0) (pa_cons (pe_bltn (v := .ty "bool") rfl mb (by decide +kernel) rfl) pa_nil))) (pe_one (pe_cmpR op_eq (pv 0) (pv 1) (nomark _))))))) pss_nil)
        (pss_cons (ps_if (pt_val (pe_callB call_isi (by rfl) mi (by decide +kernel) (pa_cons (pv 1) (pa_cons (pe_bltn (v := .ty "str") rfl ms (by decide +kernel) rfl) pa_nil))))
          (pss_one (ps_ret (pe_and (pe_callB call_isi (by rfl) mi (by decide +kernel) (pa_cons (pv 0) (pa_cons (pe_bltn (v := .ty "str") rfl ms (by decide +kernel) rfl) pa_nil))) (pe_one (pe_cmpR op_eq (pv 0) (pv 1) (nomark _)))))) pss_nil)
        (pss_one (ps_ret (pe_and (pe_callB call_isi (by rfl) mi (by decide +kernel) (pa_cons (pv 0) (pa_cons (pe_bltn (v := .ty "int") rfl mn (by decide +kernel) rfl) pa_nil))) (pe_one (pe_cmpR op_eq (pv 0) (pv 1) (nomark _))))))))), ?_⟩
      have cls : (∃ (ds : List PyData) (tn : String) (bt : Bool), (∀ H', Same H H' → TyX K H' x (.type tn)) ∧ (∀ H', Same H H' → TyX K H' y (.type tn)) ∧ kitB tn "tuple" = some bt ∧ kitB tn "list" = some (!bt) ∧ (Dp K H x (.list ds) ∨ Dp K H x (.tuple ds)) ∧ (Dp K H y (.list ds) ∨ Dp K H y (.tuple ds)) ∧ ds.length ≤ 1000000 ∧ ∀ e ∈ ds, okD n e) ∨
          (TyX K H x (.type (tyN d)) ∧ TyX K H y (.type (tyN d)) ∧ x = y ∧ ((∃ i, d = .int i ∧ x = .int i) ∨ (∃ i, d = .str i ∧ x = .str i) ∨ (∃ i, d = .bool i ∧ x = .bl i) ∨ (d = .none ∧ x = .non))) := by
        have tx := dp_ty hx
        have ty := dp_ty hy
        cases d with
        | none =>
          cases hx
          cases hy
          exact .inr ⟨tx, ty, rfl, .inr (.inr (.inr ⟨rfl, rfl⟩))⟩
        | bool b =>
          cases hx
          cases hy
          exact .inr ⟨tx, ty, rfl, .inr (.inr (.inl ⟨b, rfl, rfl⟩))⟩
        | int i =>
          cases hx
          cases hy
          exact .inr ⟨tx, ty, rfl, .inl ⟨i, rfl, rfl⟩⟩
        | str i =>
          cases hx
          cases hy
          exact .inr ⟨tx, ty, rfl, .inr (.inl ⟨i, rfl, rfl⟩)⟩
        | list ds =>
          unfold okD at hok
          exact .inl ⟨ds, "list", false, fun H' s => dp_ty (dp_same s hx), fun H' s => dp_ty (dp_same s hy), by decide +kernel, by decide +kernel, .inl hx, .inl hy, hok.1, hok.2⟩
        | tuple ds =>
          unfold okD at hok
          exact .inl ⟨ds, "tuple", true, fun H' s => dp_ty (dp_same s hx), fun H' s => dp_ty (dp_same s hy), by decide +kernel, by decide +kernel, .inr hx, .inr hy, hok.1, hok.2⟩
        | dict kvs => cases hx
      rcases cls with ⟨ds, tn, bt, tx, ty, kt, kl, hx', hy', hlen, hall⟩ | ⟨tx, ty, rfl, hsc⟩
      · obtain ⟨a, xs, rfl, hxs, hxa⟩ := dp_seq hx'
        obtain ⟨b, ys, rfl, hys, hya⟩ := dp_seq hy'
        have exl : xs.length = ds.length := dpa_len hxa
        have eyl : ys.length = ds.length := dpa_len hya
        have kA : PySem.W.kitAny K (.type tn) [.type "tuple", .type "list"] = some true := by
          cases bt with
          | true => exact kitAny_cons (kit_ty kt) (fun z => by cases z) (fun _ => rfl)
          | false => exact kitAny_cons (kit_ty kt) (fun _ => kitAny_cons (kit_ty kl) (fun z => by cases z) (fun _ => rfl)) (fun z => by cases z)
        have ty0 := ty H (Same.refl H)
        have tx0 := tx H (Same.refl H)
        refine ⟨_, rfl, .ref b, .ty "tuple", _, _, bt, rfl, ClsV.ty _, ty0, kit_ty kt, _, rfl, ?_⟩
        have step : ∀ {A B D : Prop}, (bt = false → (if true = true then A else B) → D) → A → (if bt = true then (if true = true then A else B) else D) := fun h1 h2 => by
          cases bt with
          | true => exact iteT (iteT h2)
          | false => exact iteF (h1 rfl (iteT h2))
        refine step (fun _ hh => ⟨_, rfl, .ref b, .ty "list", _, _, true, rfl, ClsV.ty _, ty0, kit_ty (by rw [kl]; cases bt <;> first | rfl | contradiction), _, rfl, hh⟩) ?_
        refine ⟨_, rfl, .ref a, .ty "tuple", _, _, bt, rfl, ClsV.ty _, tx0, kit_ty kt, _, rfl, .ref b, .ty "tuple", _, _, bt, rfl, ClsV.ty _, ty0, kit_ty kt, rfl, _, rfl, ifnd_t rfl ?_⟩
        refine ⟨_, rfl, (by show 2 ≤ sizeLine; decide), fun tp htp => ?_⟩
        have s1 : Same H (upd H tp (.tup [.ty "tuple", .ty "list"])) := same_new htp
        refine ⟨.ref a, tp, _, _, _, true, rfl, upd_same, .cons (ClsV.ty _) (.cons (ClsV.ty _) .nil), tx _ s1, kA, _, rfl, iteF ?_⟩
        have m1 : ∀ {H' : Hp}, Same H H' → (SqL K H' a xs ∨ SqT K H' a xs) := fun s => hxs.elim (fun h => .inl (s.seq h)) (fun h => .inr (same_sqt s h))
        have m2 : ∀ {H' : Hp}, Same H H' → (SqL K H' b ys ∨ SqT K H' b ys) := fun s => hys.elim (fun h => .inl (s.seq h)) (fun h => .inr (same_sqt s h))
        refine ⟨_, rfl, _, ds.length, rfl, lenv_seq (m1 s1) exl.symm, _, rfl, _, ds.length, rfl, lenv_seq (m2 s1) eyl.symm, rfl, _, rfl, ifnd_t rfl ?_⟩
        refine ⟨_, rfl, _, ds.length, rfl, lenv_seq (m2 s1) eyl.symm, _, rfl, by omega, by omega, fun D hD => ?_⟩
        have s2 : Same H (upd (upd H tp (.tup [.ty "tuple", .ty "list"])) D (.lst [])) := s1.trans (same_new hD)
        refine lc_range (lo := 0) (n := ds.length) (fun i H' => Same H H' ∧ H' D = some (.lst [])) ⟨s2, upd_same⟩ ?_ ?_
        · rintro i H' hi ⟨s3, eD⟩
          obtain ⟨e, he⟩ : ∃ e, ds[i]? = some e := ⟨_, List.getElem?_eq_getElem hi⟩
          obtain ⟨u, hu, hud⟩ := dpa_get hxa he
          obtain ⟨v, hv, hvd⟩ := dpa_get hya he
          refine ⟨rfl, _, rfl, _, rfl, rix_seq (m1 s3) (at_of (j := i) (by omega) hu) ?_⟩
          refine ⟨_, rfl, _, rfl, rix_seq (m2 s3) (at_of (j := i) (by omega) hv) ?_⟩
          refine ⟨u, v, e, rfl, dp_same s3 hud, dp_same s3 hvd, hall e (List.mem_of_getElem? he), fun H4 s4 => ⟨_, rfl, iteF ⟨s3.trans s4, s4 _ _ eD⟩⟩⟩
        · rintro H' ⟨s3, eD⟩
          refine ⟨Nat.zero_le _, fun z hz => ?_⟩
          have s4 := same_new (o := .lst []) hz
          exact ⟨.list [], .list [], .lst (SqL.of (s4 _ _ eD)) .nil, .lst (SqL.of upd_same) .nil, rfl, rfl, q _ (s3.trans s4)⟩
      · have step0 : ∀ {A : Prop}, A → A := fun h => h
        rcases hsc with ⟨i, rfl, rfl⟩ | ⟨i, rfl, rfl⟩ | ⟨i, rfl, rfl⟩ | ⟨rfl, rfl⟩
        · have tx : TyX K H _ (.type "int") := tx
          have ty : TyX K H _ (.type "int") := ty
          refine ⟨_, rfl, _, .ty "tuple", _, _, false, rfl, ClsV.ty _, ty, kit_ty (by decide +kernel), _, rfl, iteF ⟨_, rfl, _, .ty "list", _, _, false, rfl, ClsV.ty _, ty, kit_ty (by decide +kernel), _, rfl, iteF ?_⟩⟩
          refine ⟨_, rfl, rfl, _, rfl, ifd_f (by intro z; cases z) ⟨_, rfl, rfl, _, rfl, ifd_f (by intro z; cases z) ?_⟩⟩
          refine ⟨_, rfl, _, .ty "bool", _, _, false, rfl, ClsV.ty _, ty, kit_ty (by decide +kernel), _, rfl, iteF ⟨_, rfl, _, .ty "bool", _, _, false, rfl, ClsV.ty _, tx, kit_ty (by decide +kernel), _, rfl, iteF ?_⟩⟩
          refine ⟨_, rfl, _, .ty "str", _, _, false, rfl, ClsV.ty _, ty, kit_ty (by decide +kernel), _, rfl, iteF ?_⟩
          refine ⟨_, rfl, _, .ty "int", _, _, true, rfl, ClsV.ty _, tx, kit_ty (by decide +kernel), _, rfl, iteT ⟨_, rfl, _, rfl, rfl, ?_⟩⟩
          rw [decide_eq_true rfl]
          exact q _ (Same.refl _)
        · have tx : TyX K H _ (.type "str") := tx
          have ty : TyX K H _ (.type "str") := ty
          refine ⟨_, rfl, _, .ty "tuple", _, _, false, rfl, ClsV.ty _, ty, kit_ty (by decide +kernel), _, rfl, iteF ⟨_, rfl, _, .ty "list", _, _, false, rfl, ClsV.ty _, ty, kit_ty (by decide +kernel), _, rfl, iteF ?_⟩⟩
          refine ⟨_, rfl, rfl, _, rfl, ifd_f (by intro z; cases z) ⟨_, rfl, rfl, _, rfl, ifd_f (by intro z; cases z) ?_⟩⟩
          refine ⟨_, rfl, _, .ty "bool", _, _, false, rfl, ClsV.ty _, ty, kit_ty (by decide +kernel), _, rfl, iteF ⟨_, rfl, _, .ty "bool", _, _, false, rfl, ClsV.ty _, tx, kit_ty (by decide +kernel), _, rfl, iteF ?_⟩⟩
          refine ⟨_, rfl, _, .ty "str", _, _, true, rfl, ClsV.ty _, ty, kit_ty (by decide +kernel), _, rfl, iteT ?_⟩
          refine ⟨_, rfl, _, .ty "str", _, _, true, rfl, ClsV.ty _, tx, kit_ty (by decide +kernel), _, rfl, iteT ⟨_, rfl, _, rfl, rfl, ?_⟩⟩
          rw [decide_eq_true rfl]
          exact q _ (Same.refl _)
        · have tx : TyX K H _ (.type "bool") := tx
          have ty : TyX K H _ (.type "bool") := ty
          refine ⟨_, rfl, _, .ty "tuple", _, _, false, rfl, ClsV.ty _, ty, kit_ty (by decide +kernel), _, rfl, iteF ⟨_, rfl, _, .ty "list", _, _, false, rfl, ClsV.ty _, ty, kit_ty (by decide +kernel), _, rfl, iteF ?_⟩⟩
          refine ⟨_, rfl, rfl, _, rfl, ifd_f (by intro z; cases z) ⟨_, rfl, rfl, _, rfl, ifd_f (by intro z; cases z) ?_⟩⟩
          refine ⟨_, rfl, _, .ty "bool", _, _, true, rfl, ClsV.ty _, ty, kit_ty (by decide +kernel), _, rfl, iteT (iteT ?_)⟩
          refine ⟨_, rfl, _, .ty "bool", _, _, true, rfl, ClsV.ty _, ty, kit_ty (by decide +kernel), _, rfl, iteT ⟨_, rfl, _, .ty "bool", _, _, true, rfl, ClsV.ty _, tx, kit_ty (by decide +kernel), _, rfl, iteT ⟨_, rfl, _, rfl, rfl, ?_⟩⟩⟩
          rw [decide_eq_true rfl]
          exact q _ (Same.refl _)
        · have tx : TyX K H _ (.type "NoneType") := tx
          have ty : TyX K H _ (.type "NoneType") := ty
          refine ⟨_, rfl, _, .ty "tuple", _, _, false, rfl, ClsV.ty _, ty, kit_ty (by decide +kernel), _, rfl, iteF ⟨_, rfl, _, .ty "list", _, _, false, rfl, ClsV.ty _, ty, kit_ty (by decide +kernel), _, rfl, iteF ?_⟩⟩
          refine ⟨_, rfl, rfl, _, rfl, ifd_t rfl (iteT ?_)⟩
          refine ⟨_, rfl, rfl, _, rfl, ifd_t rfl ⟨_, rfl, rfl, ?_⟩⟩
          exact q _ (Same.refl _)
end
end Ag

namespace Ag
open PySem PySem.Spec PyProof.Rows L2
/-! ### the law's copies -/
open LamX NdefX
abbrev s_l_copied : Stmt := top 48
def sp_l_copied (n : Nat) (K : PySem.W.Frag) : Sp := fun vs H Q _ => ∃ (x : V) (d : PyData), vs = [x] ∧ Dp K H x d ∧ okD n d ∧ ∀ (H' : Hp) (y : V), Same H H' → Dp K (nw H H') y d → Q y H'
theorem sc_l_copied : FnScope ["_law_told", "_law_one"] ["_law_told"] (defScope s_l_copied) := ⟨rfl, rfl, rfl, by decide +kernel, rfl, by decide +kernel, by decide +kernel⟩

section
variable {P : Program} {w : World} {K : PySem.W.Frag} {mg : Str → Option Value} {base : Heap}
set_option maxHeartbeats 16000000 in
theorem ok_l_copied {f : Addr} {fd : FuncData} (F : Fun K "_law_copied" "_law_copied" s_l_copied f fd) (C__law_copied : Cal K mg "_law_copied" f fd ["_law_told"]) (mb_isinstance : mg "isinstance" = none) (mb_tuple : mg "tuple" = none) (mb_list : mg "list" = none) :
    ∀ n : Nat, FnOk P w K mg base CX0 (n + 1) f fd ["_law_told"] (sp_l_copied n K)
  | 0 => by
    refine F.ok sc_l_copied (fun vs H Q E h => ?_) (fun cdv A outer s H vs Q E hr h => ?_)
    · obtain ⟨x, d, rfl, _⟩ := h
      rfl
    · obtain ⟨x, d, _, _, h, _⟩ := h
      unfold okD at h
      exact h.elim
  | n + 1 => by
    have G__law_copied := ok_l_copied F C__law_copied mb_isinstance mb_tuple mb_list n
    refine F.ok sc_l_copied (fun vs H Q E h => ?_) (fun cdv A outer s H vs Q E hr h => ?_)
    · obtain ⟨x, d, rfl, _⟩ := h
      rfl
    · obtain ⟨x, d, rfl, hx, hok, q⟩ := h
      have nd := sc_l_copied.nd
      have hr__law_copied : Room (n + 1) _ := hr
      refine ⟨_, (pss_cons (ps_if (pt_val (pe_callB (r := rIsi K) call_isi (by rfl) mb_isinstance (by decide +kernel) (pa_cons (pv 0) (pa_cons (pe_bltn (v := .ty "list") rfl mb_list (by decide +kernel) rfl) pa_nil)))) (pss_one (ps_ret (pe_lc (own := [("_law_one", 1)]) (g := (gName 1)) (tt := tYes) rfl nd (pi_list (pv 0)) (blkOk_by (own := [("_law_one", 1)]) (N := ["_law_told", "_law_one"]) (sc := defScope s_l_copied) (by decide +kernel)) (fun _ _ _ _ _ => (pg_name (i := 1) nd rfl (.inl rfl))) (fun _ _ _ _ _ => pts_nil) (fun _ _ _ _ _ => (pe_call G__law_copied hr__law_copied rfl C__law_copied.m C__law_copied.k C__law_copied.b .nil pass0 (pa_cons (pv 1) pa_nil)))))) pss_nil)
      (pss_one (ps_ret (pe_ifExp (pt_val (pe_callB (r := rIsi K) call_isi (by rfl) mb_isinstance (by decide +kernel) (pa_cons (pv 0) (pa_cons (pe_bltn (v := .ty "tuple") rfl mb_tuple (by decide +kernel) rfl) pa_nil)))) (pe_tupleOf rfl mb_tuple (pe_lc (own := [("_law_one", 1)]) (g := (gName 1)) (tt := tYes) rfl nd (pi_tup (pv 0)) (blkOk_by (own := [("_law_one", 1)]) (N := ["_law_told", "_law_one"]) (sc := defScope s_l_copied) (by decide +kernel)) (fun _ _ _ _ _ => (pg_name (i := 1) nd rfl (.inl rfl))) (fun _ _ _ _ _ => pts_nil) (fun _ _ _ _ _ => (pe_call G__law_copied hr__law_copied rfl C__law_copied.m C__law_copied.k C__law_copied.b .nil pass0 (pa_cons (pv 1) pa_nil))))) (pv 0))))), ?_⟩
      have tx := dp_ty hx
      cases d with
      | dict kvs => cases hx
      | none =>
        cases hx
        refine ⟨_, rfl, .non, .ty "list", _, _, false, rfl, ClsV.ty _, (show TyX K H _ (.type "NoneType") from tx), kit_ty (by decide +kernel), _, rfl, iteF ?_⟩
        exact ⟨_, rfl, .non, .ty "tuple", _, _, false, rfl, ClsV.ty _, (show TyX K H _ (.type "NoneType") from tx), kit_ty (by decide +kernel), _, rfl, iteF ⟨_, rfl, q _ _ (Same.refl H) .non⟩⟩
      | bool b =>
        cases hx
        refine ⟨_, rfl, .bl b, .ty "list", _, _, false, rfl, ClsV.ty _, (show TyX K H _ (.type "bool") from tx), kit_ty (by decide +kernel), _, rfl, iteF ?_⟩
        exact ⟨_, rfl, .bl b, .ty "tuple", _, _, false, rfl, ClsV.ty _, (show TyX K H _ (.type "bool") from tx), kit_ty (by decide +kernel), _, rfl, iteF ⟨_, rfl, q _ _ (Same.refl H) (.bl b)⟩⟩
      | int i =>
        cases hx
        refine ⟨_, rfl, .int i, .ty "list", _, _, false, rfl, ClsV.ty _, (show TyX K H _ (.type "int") from tx), kit_ty (by decide +kernel), _, rfl, iteF ?_⟩
        exact ⟨_, rfl, .int i, .ty "tuple", _, _, false, rfl, ClsV.ty _, (show TyX K H _ (.type "int") from tx), kit_ty (by decide +kernel), _, rfl, iteF ⟨_, rfl, q _ _ (Same.refl H) (.int i)⟩⟩
      | str i =>
        cases hx
        refine ⟨_, rfl, .str i, .ty "list", _, _, false, rfl, ClsV.ty _, (show TyX K H _ (.type "str") from tx), kit_ty (by decide +kernel), _, rfl, iteF ?_⟩
        exact ⟨_, rfl, .str i, .ty "tuple", _, _, false, rfl, ClsV.ty _, (show TyX K H _ (.type "str") from tx), kit_ty (by decide +kernel), _, rfl, iteF ⟨_, rfl, q _ _ (Same.refl H) (.str i)⟩⟩
      | list ds =>
        obtain ⟨a, xs, rfl, hs, ha⟩ := dp_list hx
        unfold okD at hok
        refine ⟨_, rfl, .ref a, .ty "list", _, _, true, rfl, ClsV.ty _, (show TyX K H _ (.type "list") from tx), kit_ty (by decide +kernel), _, rfl, iteT ?_⟩
        refine ⟨_, rfl, a, rfl, ⟨_, hs⟩, fun D hD => ?_⟩
        refine lc_list (K := K) (a := a) (xs := xs) (fun i H' => Same H H' ∧ ∃ ys, H' D = some (.lst ys) ∧ ys.length = i ∧ DpAll K (fr H H' D) ys (ds.take i)) ⟨same_new hD, [], upd_same, rfl, .nil⟩ (fun i H' _ ⟨s, _⟩ => s.seq hs) ?_ ?_
        · rintro i x H' hi ⟨s1, ys, eD, hyl, hys⟩
          obtain ⟨k, hk, hxk⟩ := dpa_get' ha hi
          have hlt : i < ds.length := (List.getElem?_eq_some_iff.mp hk).1
          refine ⟨rfl, _, rfl, x, k, rfl, dp_same s1 hxk, hok.2 k (List.mem_of_getElem? hk), fun H2 y s2 hy => ?_⟩
          have eD2 := s2 _ _ eD
          refine ⟨ys, eD2, Nat.lt_of_le_of_lt (by omega : ys.length ≤ 1000000) (by decide), same_upd (s1.trans s2) hD, ys ++ [y], upd_same, by rw [List.length_append, hyl]; rfl, ?_⟩
          rw [take_more hk]
          refine dpa_snoc (dpa_same (fr_step (sb_upd (sb_of s2))) hys) (dp_same (fun b o e => ?_) hy)
          obtain ⟨e1, e2⟩ := nw_of e
          have nb : b ≠ D := fun z => by rw [z, eD] at e1; cases e1
          exact fr_at nb (s1.free e1) (by rw [upd_ne nb]; exact e2)
        · rintro H' ⟨s1, ys, eD, hyl, hys⟩
          have hxd := dpa_len ha
          rw [List.take_of_length_le (by omega)] at hys
          exact q H' (.ref D) s1 (.lst (SqL.of (by rw [nw_none hD]; exact eD)) (dpa_same fr_nw hys))
      | tuple ds =>
        obtain ⟨a, xs, rfl, hs, ha⟩ := dp_tuple hx
        unfold okD at hok
        refine ⟨_, rfl, .ref a, .ty "list", _, _, false, rfl, ClsV.ty _, (show TyX K H _ (.type "tuple") from tx), kit_ty (by decide +kernel), _, rfl, iteF ?_⟩
        refine ⟨_, rfl, .ref a, .ty "tuple", _, _, true, rfl, ClsV.ty _, (show TyX K H _ (.type "tuple") from tx), kit_ty (by decide +kernel), _, rfl, iteT ?_⟩
        refine ⟨_, rfl, a, rfl, ⟨_, hs⟩, fun D hD => ?_⟩
        refine lc_tup (K := K) (a := a) (xs := xs) (fun i H' => Same H H' ∧ ∃ ys, H' D = some (.lst ys) ∧ ys.length = i ∧ DpAll K (fr H H' D) ys (ds.take i)) ⟨same_new hD, [], upd_same, rfl, .nil⟩ (fun i H' _ ⟨s, _⟩ => same_sqt s hs) ?_ ?_
        · rintro i x H' hi ⟨s1, ys, eD, hyl, hys⟩
          obtain ⟨k, hk, hxk⟩ := dpa_get' ha hi
          have hlt : i < ds.length := (List.getElem?_eq_some_iff.mp hk).1
          refine ⟨rfl, _, rfl, x, k, rfl, dp_same s1 hxk, hok.2 k (List.mem_of_getElem? hk), fun H2 y s2 hy => ?_⟩
          have eD2 := s2 _ _ eD
          refine ⟨ys, eD2, Nat.lt_of_le_of_lt (by omega : ys.length ≤ 1000000) (by decide), same_upd (s1.trans s2) hD, ys ++ [y], upd_same, by rw [List.length_append, hyl]; rfl, ?_⟩
          rw [take_more hk]
          refine dpa_snoc (dpa_same (fr_step (sb_upd (sb_of s2))) hys) (dp_same (fun b o e => ?_) hy)
          obtain ⟨e1, e2⟩ := nw_of e
          have nb : b ≠ D := fun z => by rw [z, eD] at e1; cases e1
          exact fr_at nb (s1.free e1) (by rw [upd_ne nb]; exact e2)
        · rintro H' ⟨s1, ys, eD, hyl, hys⟩
          have hxd := dpa_len ha
          rw [List.take_of_length_le (by omega)] at hys
          refine .inl ⟨D, ys, rfl, SqL.of eD, fun p hp => ?_⟩
          have s2 := same_new (o := HO.tup ys) hp
          refine q _ (.ref p) (s1.trans s2) (.tup (SqT.of (nw_new s1 hp)) (dpa_same (fun b o e => ?_) hys))
          obtain ⟨e1, e2⟩ := nw_of (fr_nw b o e)
          rw [nw_none e1]
          exact s2 _ _ e2
end
end Ag

namespace Ag
open PySem PySem.Spec PyProof.Rows L2
/-! ### the row and the code tables -/
open LamX NdefX
theorem rowAt_nt {K : PySem.W.Frag} {H : Hp} {r : Addr} (h : RowAt K H r) : RowAt K (ntH H) r := by
  obtain ⟨a, ns, pos, mix, h0, h1, h2⟩ := h
  refine ⟨a, ns, pos, mix, h0, ntH_some.mpr ⟨h1, fun ps q => by cases q⟩, ?_⟩
  rcases h2 with ⟨o, h⟩ | h
  · exact .inl ⟨o, ntH_some.mpr ⟨h, fun ps q => by cases q⟩⟩
  · exact .inr h
theorem tabs_row {K : PySem.W.Frag} {T : List (Addr × Str)} {H H' : Hp} {r : Addr} (h : Tabs T H) (hR : RowAt K H r) (s : SameBut r H H') : Tabs T H' := by
  obtain ⟨a, ns, pos, mix, h0, h1, h2⟩ := hR
  exact tabs_but h h1 (by intro _ q; cases q) (by intro _ q; cases q) s
/-! ### all that is told of a disk and its asks -/
open LamX NdefX
abbrev s_l_answer : Stmt := top 47
def rowsD (rs : List (Nat × Int)) : PyData := .list (rs.map dRow)
/-- what is told, by ways -/
def AnsIs (d : Disk) (l : List Ask) (w : Int) (ds : List PyData) : Prop :=
  (w = 0 ∧ ds = [rowsD (rowsOf d l 0 d.he (List.range l.length)), dCosts (costsOf d l (rowsOf d l 0 d.he (List.range l.length)))]) ∨
  (w = 1 ∧ ds = [rowsD (ruledR d l .sweep), dCosts (costsOf d l (ruledR d l .sweep)), rowsD (ruledR d l .loop), dCosts (costsOf d l (ruledR d l .loop))]) ∨
  (w = 2 ∧ ∃ os, IsOrd l.length l.length os ∧ dSum d l os = leastOf d l ∧ ds = [.int (allOf d l os), .list ((nints os).map PyData.int)] ++ RLS.map (heldRow d l)) ∨
  (w = 3 ∧ ∃ F, IsFront d l F ∧ F.length ≤ 100000 ∧ (∀ e ∈ F, e.2.length = l.length) ∧ ds = F.map (fun e => .list ((nints e.2).map PyData.int)) ++ F.map dFr) ∨
  (w = 4 ∧ ds = [.str (textS l), dAsks l])
theorem nints_inj : ∀ {a b : List Nat}, (nints a).map PyData.int = (nints b).map PyData.int → a = b
  | [], [], _ => rfl
  | [], _ :: _, h => by cases h
  | _ :: _, [], h => by cases h
  | x :: a, y :: b, h => by
    unfold nints at h
    rw [List.map_cons, List.map_cons, List.map_cons, List.map_cons] at h
    injection h with h1 h2
    injection h1 with h1
    have e : x = y := by omega
    rw [e, nints_inj h2]
theorem dSum_inj {d : Disk} {l : List Ask} {a b : List Nat} (h : dSum d l a = dSum d l b) : a = b := by
  unfold dSum at h
  injection h with h
  injection h with _ h
  injection h with h _
  injection h with h
  exact nints_inj h
theorem ans_unique {d : Disk} {l : List Ask} {w : Int} {a b : List PyData} (ha : AnsIs d l w a) (hb : AnsIs d l w b) : a = b := by
  rcases ha with ⟨e, ha⟩ | ⟨e, ha⟩ | ⟨e, os, _, h1, ha⟩ | ⟨e, F, h1, _, _, ha⟩ | ⟨e, ha⟩ <;>
  rcases hb with ⟨e', hb⟩ | ⟨e', hb⟩ | ⟨e', os', _, h2, hb⟩ | ⟨e', F', h2, _, _, hb⟩ | ⟨e', hb⟩ <;> first | (exfalso; omega) | skip
  · rw [ha, hb]
  · rw [ha, hb]
  · have := dSum_inj (h1.trans h2.symm)
    rw [ha, hb, this]
  · have := front_unique h1 h2
    rw [ha, hb, this]
  · rw [ha, hb]
theorem okD_rows (m : Nat) {rs : List (Nat × Int)} (h : rs.length ≤ 1000) : okD (m + 3) (rowsD rs) := by
  refine okD_list (by rw [List.length_map]; omega) fun d hd => ?_
  obtain ⟨r, _, rfl⟩ := List.mem_map.mp hd
  exact okD_tuple (by show 2 ≤ 1000000; decide) (okD_ints _ _)
theorem okD_costs (m : Nat) (k : Int × Int × Int) : okD (m + 2) (dCosts k) := okD_tuple (by show 3 ≤ 1000000; decide) (okD_ints _ _)
theorem okD_nints (m : Nat) {os : List Nat} (h : os.length ≤ 1000) : okD (m + 2) (.list ((nints os).map PyData.int)) := okD_list (by rw [List.length_map, nints_len]; omega) (okD_ints _ _)
theorem ans_ok {d : Disk} {l : List Ask} {w : Int} {ds : List PyData} (hl : l.length ≤ 5) (h : AnsIs d l w ds) : okD 4 (.list ds) := by
  have hcons : ∀ {a : PyData} {r : List PyData}, okD 3 a → (∀ x ∈ r, okD 3 x) → ∀ x ∈ a :: r, okD 3 x := fun h1 h2 x hx => by
    rcases List.mem_cons.mp hx with rfl | hx
    · exact h1
    · exact h2 x hx
  have hnil : ∀ x ∈ ([] : List PyData), okD 3 x := fun x hx => by cases hx
  have hro : (rowsOf d l 0 d.he (List.range l.length)).length ≤ 1000 := by rw [rowsOf_len, List.length_range]; omega
  have hru : ∀ r, (ruledR d l r).length ≤ 1000 := fun r => by rw [ruledR_len]; omega
  rcases h with ⟨e, rfl⟩ | ⟨e, rfl⟩ | ⟨e, os, h0, h1, rfl⟩ | ⟨e, F, h1, h2, h3, rfl⟩ | ⟨e, rfl⟩
  · exact okD_list (by show 2 ≤ 1000000; decide) (hcons (okD_rows 0 hro) (hcons (okD_costs 1 _) hnil))
  · exact okD_list (by show 4 ≤ 1000000; decide) (hcons (okD_rows 0 (hru _)) (hcons (okD_costs 1 _) (hcons (okD_rows 0 (hru _)) (hcons (okD_costs 1 _) hnil))))
  · refine okD_list (by show 2 + 5 ≤ 1000000; decide) (hcons (okD_int _ _) (hcons (okD_nints 1 (by rw [h0.len]; omega)) fun x hx => ?_))
    obtain ⟨r, _, rfl⟩ := List.mem_map.mp hx
    exact okD_tuple (by show 4 ≤ 1000000; decide) (fun e he => by
      rcases List.mem_cons.mp he with rfl | he
      · exact okD_str _ _
      · rcases List.mem_cons.mp he with rfl | he
        · exact okD_int _ _
        · rcases List.mem_cons.mp he with rfl | he
          · exact okD_int _ _
          · rcases List.mem_cons.mp he with rfl | he
            · exact okD_int _ _
            · cases he)
  · refine okD_list (by rw [List.length_append, List.length_map, List.length_map]; omega) fun x hx => ?_
    rcases List.mem_append.mp hx with hx | hx
    · obtain ⟨e, he, rfl⟩ := List.mem_map.mp hx
      exact okD_nints 1 (by rw [h3 e he]; omega)
    · obtain ⟨e, he, rfl⟩ := List.mem_map.mp hx
      exact okD_tuple (by show 3 ≤ 1000000; decide) (fun z hz => by
        rcases List.mem_cons.mp hz with rfl | hz
        · exact okD_int _ _
        · rcases List.mem_cons.mp hz with rfl | hz
          · exact okD_int _ _
          · rcases List.mem_cons.mp hz with rfl | hz
            · exact okD_nints 0 (by rw [h3 e he]; omega)
            · cases hz)
  · refine okD_list (by show 2 ≤ 1000000; decide) (hcons (okD_str _ _) (hcons (okD_list (by rw [List.length_map]; omega) fun x hx => ?_) hnil))
    obtain ⟨r, _, rfl⟩ := List.mem_map.mp hx
    exact okD_tuple (by show 3 ≤ 1000000; decide) (okD_ints _ _)
/-- what stands in a told list: a number, a text, a tuple, or a list of its own (new since G) -/
def Mut (K : PySem.W.Frag) (G H : Hp) (p : Addr) (n : Nat) (x : V) : Prop := (∃ i, x = .int i) ∨ (∃ s, x = .str s) ∨ (∃ t ys, x = .ref t ∧ SqT K H t ys) ∨ (∃ a ys, x = .ref a ∧ H a = some (.lst ys) ∧ G a = none ∧ ys.length ≤ n ∧ a ≠ p)
theorem mut_same {K : PySem.W.Frag} {G H H' : Hp} {p : Addr} {n : Nat} {x : V} (s : Same H H') (h : Mut K G H p n x) : Mut K G H' p n x := by
  rcases h with h | h | ⟨t, ys, e, h⟩ | ⟨a, ys, e, h, h2⟩
  · exact .inl h
  · exact .inr (.inl h)
  · exact .inr (.inr (.inl ⟨t, ys, e, same_sqt s h⟩))
  · exact .inr (.inr (.inr ⟨a, ys, e, s _ _ h, h2⟩))
def sp_l_answer (K : PySem.W.Frag) (T : List (Addr × Str)) : Sp := fun vs H Q _ => ∃ (w : Int) (v u : V) (d : Disk) (l : List Ask), vs = [.int w, v, u] ∧ 0 ≤ w ∧ w ≤ 4 ∧ Dp K H v (dDisk d) ∧ Dp K H u (dAsks l) ∧ GoodDisk d ∧ GoodAsks d l ∧ l.length ≤ 5 ∧ Tabs T H ∧
  ∀ (H' : Hp) (p : Addr) (xs : List V) (ds : List PyData), Same (ntH H) H' → Tabs T H' → ntH H p = none → H' p = some (.lst xs) → DpAll K H' xs ds → AnsIs d l w ds → (∀ x ∈ xs, Mut K (ntH H) H' p 1000 x) → Q (.ref p) H'
theorem sc_l_answer : FnScope ["_law_way", "_law_disk_here", "_law_asks_here", "_law_one"] ["_law_way", "_law_disk_here", "_law_asks_here"] (defScope s_l_answer) := ⟨rfl, rfl, rfl, by decide +kernel, rfl, by decide +kernel, by decide +kernel⟩
theorem dpa_app {K : PySem.W.Frag} {H : Hp} : ∀ {as bs : List PyData} {vs us : List V}, DpAll K H vs as → DpAll K H us bs → DpAll K H (vs ++ us) (as ++ bs)
  | [], _, _, _, h, h2 => by cases h; exact h2
  | _ :: _, _, _, _, h, h2 => by
    cases h with
    | cons h1 h3 => exact .cons h1 (dpa_app h3 h2)
theorem nodup_len {α : Type} [DecidableEq α] : ∀ {l m : List α}, l.Nodup → (∀ x ∈ l, x ∈ m) → l.length ≤ m.length
  | [], _, _, _ => Nat.zero_le _
  | a :: t, m, nd, hs => by
    have ha : a ∈ m := hs a List.mem_cons_self
    have hn := List.nodup_cons.mp nd
    have ih : t.length ≤ (m.erase a).length := nodup_len hn.2 (fun x hx => by
      have hx' : x ∈ m := hs x (List.mem_cons_of_mem _ hx)
      have hne : x ≠ a := fun e => hn.1 (e ▸ hx)
      exact (List.mem_erase_of_ne hne).mpr hx')
    rw [List.length_erase_of_mem ha] at ih
    have := List.length_pos_of_mem ha
    simp only [List.length_cons]
    omega
theorem front_small {d : Disk} {l : List Ask} {F : List (Cost × List Nat)} (h6 : l.length ≤ 6) (h : IsFront d l F) : F.length ≤ 100000 ∧ ∀ e ∈ F, e.2.length = l.length := by
  refine ⟨?_, fun e he => (ordersK_is (firstOf_some (h.2.2 e he)).1).len⟩
  have nd : (F.map (·.1)).Nodup := h.1.imp (fun {a b} hr => by
    rintro rfl
    rcases hr with hr | hr
    · exact absurd hr (Int.lt_irrefl _)
    · exact absurd hr.2 (Int.lt_irrefl _))
  have := nodup_len nd (m := (ordersK l.length l.length).map (costW d l)) (fun c hc => by
    obtain ⟨_, os, hos, e⟩ := (h.2.1 c).mp hc
    exact List.mem_map.mpr ⟨os, hos, e⟩)
  rw [List.length_map, List.length_map] at this
  have := ordersK_len6 h6 h6
  omega
section
variable {P : Program} {w : World} {K : PySem.W.Frag} {mg : Str → Option Value} {base : Heap}
set_option maxHeartbeats 16000000 in
theorem ok_l_answer {f fB fR fL fH fF fW fX : Addr} {fd fdB fdR fdL fdH fdF fdW fdX : FuncData} {T : List (Addr × Str)} (F : Fun K "_law_answer" "_law_answer" s_l_answer f fd)
    (G_by_order : FnOk P w K mg base CX0 3 fB fdB ["disk", "asks", "order"] (sp_by_order K)) (C_by_order : Cal K mg "by_order" fB fdB ["disk", "asks", "order"])
    (G_by_rule : FnOk P w K mg base CX0 10 fR fdR ["disk", "asks", "rule"] (sp_by_rule K T)) (C_by_rule : Cal K mg "by_rule" fR fdR ["disk", "asks", "rule"])
    (G_least_sum : FnOk P w K mg base CX0 2 fL fdL ["disk", "asks"] (sp_least_sum K)) (C_least_sum : Cal K mg "least_sum" fL fdL ["disk", "asks"])
    (G_held : FnOk P w K mg base CX0 10 fH fdH ["disk", "asks"] (sp_held K T)) (C_held : Cal K mg "held" fH fdH ["disk", "asks"])
    (G_front : FnOk P w K mg base CX0 10 fF fdF ["disk", "asks"] (sp_front K)) (C_front : Cal K mg "front" fF fdF ["disk", "asks"])
    (G_written : FnOk P w K mg base CX0 2 fW fdW ["disk", "asks"] (sp_written K)) (C_written : Cal K mg "written" fW fdW ["disk", "asks"])
    (G_read : FnOk P w K mg base CX0 2 fX fdX ["disk", "text"] (sp_read K)) (C_read : Cal K mg "read" fX fdX ["disk", "text"])
    (mb_range : mg "range" = none) (mb_list : mg "list" = none) (mb_len : mg "len" = none) : FnOk P w K mg base CX0 11 f fd ["_law_way", "_law_disk_here", "_law_asks_here"] (sp_l_answer K T) := by
  refine F.ok sc_l_answer (fun vs H Q E h => ?_) (fun cdv A outer s H vs Q E hr h => ?_)
  · obtain ⟨w, v, u, d, l, rfl, _⟩ := h
    rfl
  · obtain ⟨wy, v, u, d, l, rfl, w0, w4, hd, ha, g, ga, hl5, hT, q⟩ := h
    have nd := sc_l_answer.nd
    have hr_by_order : Room 3 _ := hr.mono (by decide)
    have hr_by_rule : Room 10 _ := hr
    have hr_least_sum : Room 2 _ := hr.mono (by decide)
    have hr_held : Room 10 _ := hr
    have hr_front : Room 10 _ := hr
    have hr_written : Room 2 _ := hr.mono (by decide)
    have hr_read : Room 2 _ := hr.mono (by decide)
    obtain ⟨ua, us, hu, hU, hul, hat⟩ := dp_asks ha
    subst hu
    refine ⟨_, (pss_cons (ps_if (pt_cmpR op_eq (pv 0) pe_int (nomark _)) (pss_one (ps_ret (pe_callTy call_list_of (by rfl) mb_list (by decide +kernel) (pa_cons (pe_call G_by_order hr_by_order rfl C_by_order.m C_by_order.k C_by_order.b .nil pass0 (pa_cons (pv 1) (pa_cons (pv 2) (pa_cons (pe_listRg rfl rfl mb_list (prg_1 rfl mb_range (pe_callB call_len_seq (by rfl) mb_len PySem.boot_len (pa_cons (pv 2) pa_nil)))) pa_nil)))) pa_nil)))) pss_nil)
      (pss_cons (ps_if (pt_cmpR op_eq (pv 0) pe_int (nomark _)) (pss_one (ps_ret (pe_op op_cat (pe_callTy call_list_of (by rfl) mb_list (by decide +kernel) (pa_cons (pe_call G_by_rule hr_by_rule rfl C_by_rule.m C_by_rule.k C_by_rule.b .nil pass0 (pa_cons (pv 1) (pa_cons (pv 2) (pa_cons pe_str pa_nil)))) pa_nil)) (pe_callTy call_list_of (by rfl) mb_list (by decide +kernel) (pa_cons (pe_call G_by_rule hr_by_rule rfl C_by_rule.m C_by_rule.k C_by_rule.b .nil pass0 (pa_cons (pv 1) (pa_cons (pv 2) (pa_cons pe_str pa_nil)))) pa_nil))))) pss_nil)
      (pss_cons (ps_if (pt_cmpR op_eq (pv 0) pe_int (nomark _)) (pss_one (ps_ret (pe_op op_cat (pe_callTy call_list_of (by rfl) mb_list (by decide +kernel) (pa_cons (pe_call G_least_sum hr_least_sum rfl C_least_sum.m C_least_sum.k C_least_sum.b .nil pass0 (pa_cons (pv 1) (pa_cons (pv 2) pa_nil))) pa_nil)) (pe_call G_held hr_held rfl C_held.m C_held.k C_held.b .nil pass0 (pa_cons (pv 1) (pa_cons (pv 2) pa_nil)))))) pss_nil)
      (pss_cons (ps_if (pt_cmpR op_eq (pv 0) pe_int (nomark _)) (pss_one (ps_ret (pe_op op_cat (pe_lc (own := [("_law_one", 3)]) (g := (gName 3)) (tt := tYes) rfl nd (pi_list (pe_call G_front hr_front rfl C_front.m C_front.k C_front.b .nil pass0 (pa_cons (pv 1) (pa_cons (pv 2) pa_nil)))) (blkOk_by (own := [("_law_one", 3)]) (N := ["_law_way", "_law_disk_here", "_law_asks_here", "_law_one"]) (sc := defScope s_l_answer) (by decide +kernel)) (fun _ _ _ _ _ => (pg_name (i := 3) nd rfl (.inl rfl))) (fun _ _ _ _ _ => pts_nil) (fun _ _ _ _ _ => (pe_ix (r := rIxT K) ix_tup (pv 3) pe_int (fun _ _ => rfl)))) (pe_call G_front hr_front rfl C_front.m C_front.k C_front.b .nil pass0 (pa_cons (pv 1) (pa_cons (pv 2) pa_nil)))))) pss_nil)
      (pss_one (ps_ret (pe_lst (pa_cons (pe_call G_written hr_written rfl C_written.m C_written.k C_written.b .nil pass0 (pa_cons (pv 1) (pa_cons (pv 2) pa_nil))) (pa_cons (pe_call G_read hr_read rfl C_read.m C_read.k C_read.b .nil pass0 (pa_cons (pv 1) (pa_cons (pe_call G_written hr_written rfl C_written.m C_written.k C_written.b .nil pass0 (pa_cons (pv 1) (pa_cons (pv 2) pa_nil))) pa_nil))) pa_nil))))))))), ?_⟩
    have e2 : rgV 0 ((us.length : Nat) : Int) = (nints (List.range l.length)).map V.int := by rw [hul]; exact rg_nints _
    have hro : (rowsOf d l 0 d.he (List.range l.length)).length ≤ 1000 := by rw [rowsOf_len, List.length_range]; omega
    have hru : ∀ r, (ruledR d l r).length ≤ 1000 := fun r => by rw [ruledR_len]; omega
    refine ⟨_, rfl, rfl, _, rfl, if2d (fun e => ?_) (fun n0 => ?_)⟩
    · obtain rfl : wy = 0 := by injection e
      refine ⟨_, rfl, _, rfl, _, rfl, ua, us, rfl, .inl hU, _, rfl, RgOk.of_le (by decide) (by rw [hul]; omega) (by decide) (by omega), fun r1 hr1 => ?_⟩
      rw [e2]
      have s1 := same_new (o := HO.lst ((nints (List.range l.length)).map V.int)) hr1
      refine ⟨v, .ref ua, .ref r1, d, l, List.range l.length, rfl, dp_same s1 hd, dp_same s1 ha, dp_ints_of (SqL.of upd_same), g, ga, List.Perm.refl _, fun H2 p c t xs res => ?_⟩
      refine ⟨p, _, rfl, .inr (SqT.of res.hp), fun p2 hp2 => ?_⟩
      have s2 := same_new (o := HO.lst [V.ref c, V.ref t]) hp2
      have s12 := s1.trans res.same
      have sA := s12.trans s2
      have npc : c ≠ p2 := ne_of_none res.hc hp2
      have hxl : xs.length ≤ 1000 := by rw [dpa_len res.rows, List.length_map]; exact hro
      refine q _ p2 [.ref c, .ref t] _ ((ntH_sub H).trans sA) (hT.ext sA) (ntH_none (s12.free hp2)) upd_same (.cons (.lst (SqL.of (s2 _ _ res.hc)) (dpa_same (fr_sub.trans s2) res.rows)) (.cons (dp_tints_of (SqT.of (s2 _ _ res.ht))) .nil)) (.inl ⟨rfl, rfl⟩) (fun x hx => ?_)
      rcases List.mem_cons.mp hx with rfl | hx
      · exact .inr (.inr (.inr ⟨c, xs, rfl, s2 _ _ res.hc, ntH_none (s1.free res.c0), hxl, npc⟩))
      · rw [List.mem_singleton.mp hx]
        exact .inr (.inr (.inl ⟨t, _, rfl, SqT.of (s2 _ _ res.ht)⟩))
    refine ⟨_, rfl, rfl, _, rfl, if2d (fun e => ?_) (fun n1 => ?_)⟩
    · obtain rfl : wy = 1 := by injection e
      refine ⟨_, rfl, _, rfl, v, .ref ua, d, l, .sweep, rfl, hd, ha, g, ga, hT, fun H1 p c t xs hT1 res => ?_⟩
      refine ⟨p, _, rfl, .inr (SqT.of res.hp), fun a1 ha1 => ?_⟩
      have s1 := same_new (o := HO.lst [V.ref c, V.ref t]) ha1
      have sA := res.same.trans s1
      have ga1 : ntH H a1 = none := res.same.free ha1
      have nca1 : c ≠ a1 := ne_of_none res.hc ha1
      have hxl : xs.length ≤ 1000 := by rw [dpa_len res.rows, List.length_map]; exact hru _
      have hTA := hT1.ext s1
      have fc : ntH (upd H1 a1 (.lst [.ref c, .ref t])) c = some (.lst xs) := ntH_some.mpr ⟨s1 _ _ res.hc, fun ps q => by cases q⟩
      have ft : ntH (upd H1 a1 (.lst [.ref c, .ref t])) t = some (.tup ([(costsOf d l (ruledR d l .sweep)).1, (costsOf d l (ruledR d l .sweep)).2.1, (costsOf d l (ruledR d l .sweep)).2.2].map V.int)) := ntH_some.mpr ⟨s1 _ _ res.ht, fun ps q => by cases q⟩
      have fa : ntH (upd H1 a1 (.lst [.ref c, .ref t])) a1 = some (.lst [.ref c, .ref t]) := ntH_some.mpr ⟨upd_same, fun ps q => by cases q⟩
      have fr1 : DpAll K (ntH (upd H1 a1 (.lst [.ref c, .ref t]))) xs ((ruledR d l .sweep).map dRow) := dpa_nt (dpa_same (fr_sub.trans s1) res.rows)
      have gc := res.c0
      revert sA hTA fc ft fa fr1
      generalize upd H1 a1 (.lst [.ref c, .ref t]) = H2
      intro sA hTA fc ft fa fr1
      refine ⟨_, rfl, _, rfl, v, .ref ua, d, l, .loop, rfl, dp_same sA (dp_nt hd), dp_same sA (dp_nt ha), g, ga, hTA, fun H3 p' c' t' xs' hT3 res' => ?_⟩
      refine ⟨p', _, rfl, .inr (SqT.of res'.hp), fun a2 ha2 => ?_⟩
      have s2 := same_new (o := HO.lst [V.ref c', V.ref t']) ha2
      have s3 := res'.same.trans s2
      refine ⟨a1, a2, _, _, rfl, rfl, s3 _ _ fa, upd_same, (by show 2 + 2 ≤ sizeLine; decide), fun b hb => ?_⟩
      have s4 := same_new (o := HO.lst ([V.ref c, V.ref t] ++ [V.ref c', V.ref t'])) hb
      have s34 := s3.trans s4
      have sB : Same (ntH H) (ntH H2) := ntH_idem sA
      have s24 := s2.trans s4
      have hxl' : xs'.length ≤ 1000 := by rw [dpa_len res'.rows, List.length_map]; exact hru _
      have gb : ntH H b = none := (sB.trans s3).free hb
      have ncb : c ≠ b := ne_of_none (s3 _ _ fc) hb
      have ncb' : c' ≠ b := ne_of_none (s2 _ _ res'.hc) hb
      refine q _ b _ _ (sB.trans s34) (hT3.ext s24) gb upd_same (.cons (.lst (SqL.of (s34 _ _ fc)) (dpa_same s34 fr1)) (.cons (dp_tints_of (SqT.of (s34 _ _ ft))) (.cons (.lst (SqL.of (s24 _ _ res'.hc)) (dpa_same (fr_sub.trans s24) res'.rows)) (.cons (dp_tints_of (SqT.of (s24 _ _ res'.ht))) .nil)))) (.inr (.inl ⟨rfl, rfl⟩)) (fun x hx => ?_)
      rcases List.mem_cons.mp hx with rfl | hx
      · exact .inr (.inr (.inr ⟨c, xs, rfl, s34 _ _ fc, gc, hxl, ncb⟩))
      rcases List.mem_cons.mp hx with rfl | hx
      · exact .inr (.inr (.inl ⟨t, _, rfl, SqT.of (s34 _ _ ft)⟩))
      rcases List.mem_cons.mp hx with rfl | hx
      · exact .inr (.inr (.inr ⟨c', xs', rfl, s24 _ _ res'.hc, sB.free res'.c0, hxl', ncb'⟩))
      · rw [List.mem_singleton.mp hx]
        exact .inr (.inr (.inl ⟨t', _, rfl, SqT.of (s24 _ _ res'.ht)⟩))
    refine ⟨_, rfl, rfl, _, rfl, if2d (fun e => ?_) (fun n2 => ?_)⟩
    · obtain rfl : wy = 2 := by injection e
      refine ⟨_, rfl, _, rfl, v, .ref ua, d, l, rfl, hd, ha, g, ga, by omega, fun H1 p o os s1 hp0 ho0 hp ho hord hdl => ?_⟩
      refine ⟨p, _, rfl, .inr (SqT.of hp), fun a1 ha1 => ?_⟩
      have s2 := same_new (o := HO.lst [V.int (allOf d l os), V.ref o]) ha1
      have s12 := s1.trans s2
      have hTA := hT.ext s12
      have fo : ntH (upd H1 a1 (.lst [.int (allOf d l os), .ref o])) o = some (.lst ((nints os).map V.int)) := ntH_some.mpr ⟨s2 _ _ ho, fun ps q => by cases q⟩
      have fa : ntH (upd H1 a1 (.lst [.int (allOf d l os), .ref o])) a1 = some (.lst [.int (allOf d l os), .ref o]) := ntH_some.mpr ⟨upd_same, fun ps q => by cases q⟩
      revert s12 hTA fo fa
      generalize upd H1 a1 (.lst [.int (allOf d l os), .ref o]) = H2
      intro s12 hTA fo fa
      refine ⟨_, rfl, _, rfl, v, .ref ua, d, l, rfl, dp_same s12 hd, dp_same s12 ha, g, ga, hTA, fun H3 D xs s3 hT3 gD eD hrows => ?_⟩
      have hxl : xs.length = 5 := by rw [dpa_len hrows]; rfl
      refine ⟨a1, D, _, _, rfl, rfl, s3 _ _ fa, eD, by rw [hxl]; show 2 + 5 ≤ sizeLine; decide, fun b hb => ?_⟩
      have s4 := same_new (o := HO.lst ([V.int (allOf d l os), V.ref o] ++ xs)) hb
      have s34 := s3.trans s4
      have sB : Same (ntH H) (ntH H2) := ntH_idem ((ntH_sub H).trans s12)
      have gb : ntH H b = none := (sB.trans s3).free hb
      have nob : o ≠ b := ne_of_none (s3 _ _ fo) hb
      have hrows4 := dpa_same (fr_sub.trans s4) hrows
      refine q _ b _ _ (sB.trans s34) (hT3.ext s4) gb upd_same (.cons (.int _) (.cons (dp_ints_of (SqL.of (s34 _ _ fo))) hrows4)) (.inr (.inr (.inl ⟨rfl, os, hord, hdl, rfl⟩))) (fun x hx => ?_)
      rcases List.mem_cons.mp hx with rfl | hx
      · exact .inl ⟨_, rfl⟩
      rcases List.mem_cons.mp hx with rfl | hx
      · exact .inr (.inr (.inr ⟨o, _, rfl, s34 _ _ fo, ntH_none ho0, by rw [List.length_map, nints_len, hord.len]; omega, nob⟩))
      · obtain ⟨i, hi, rfl⟩ := List.getElem_of_mem hx
        obtain ⟨y, hy, hxy⟩ := dpa_get' hrows4 (List.getElem?_eq_getElem hi)
        obtain ⟨r, _, rfl⟩ := List.mem_map.mp (List.mem_of_getElem? hy)
        obtain ⟨t, ys, e, ht, _⟩ := dp_tuple hxy
        exact .inr (.inr (.inl ⟨t, ys, e, ht⟩))
    refine ⟨_, rfl, rfl, _, rfl, if2d (fun e => ?_) (fun n3 => ?_)⟩
    · obtain rfl : wy = 3 := by injection e
      refine ⟨_, rfl, _, rfl, v, .ref ua, d, l, rfl, hd, ha, g, ga, by omega, fun H1 pf us1 Fr s1 hf0 hf hFr hF hFl => ?_⟩
      refine ⟨pf, rfl, ⟨_, SqL.of hf⟩, fun D hD => ?_⟩
      obtain ⟨hF5, hFe⟩ := front_small (d := d) (by omega) hF
      refine lc_list (K := K) (a := pf) (xs := us1) (fun i H' => Same H1 H' ∧ ∃ ys, H' D = some (.lst ys) ∧ All2 (OrdAt (fr H H1 pf)) ys ((Fr.take i).map (·.2))) ⟨same_new hD, [], upd_same, trivial⟩ (fun i H' _ ⟨s, _⟩ => SqL.of (s _ _ hf)) ?_ ?_
      · rintro i x H' hi ⟨s2, ys, eD, hys⟩
        obtain ⟨k, hk, t, o, rfl, ht, ho⟩ := all2_at hFr hi
        have hyl : ys.length ≤ 100000 := by rw [all2_len hys, List.length_map, List.length_take]; omega
        refine ⟨rfl, _, rfl, t, _, 2, _, rfl, rfl, SqT.of (s2 _ _ (fr_sub _ _ ht)), atI_nat (j := 2) rfl, ys, eD, Nat.lt_of_le_of_lt hyl (by decide), same_upd s2 hD, ys ++ [.ref o], upd_same, ?_⟩
        rw [take_more hk, List.map_append]
        exact all2_snoc ⟨o, rfl, ho⟩ hys
      · rintro H' ⟨s2, ys, eD, hys⟩
        rw [List.take_of_length_le (by rw [all2_len hFr]; exact Nat.le_refl _)] at hys
        have s12 := s1.trans s2
        refine ⟨_, rfl, _, rfl, v, .ref ua, d, l, rfl, dp_same s12 hd, dp_same s12 ha, g, ga, by omega, fun H3 pf2 us2 F2 s3 hf02 hf2 hFr2 hF2 _ => ?_⟩
        obtain rfl := front_unique hF2 hF
        have hyl : ys.length ≤ 100000 := by rw [all2_len hys, List.length_map]; omega
        have hul2 : us2.length ≤ 100000 := by rw [all2_len hFr2]; omega
        refine ⟨D, pf2, ys, us2, rfl, rfl, s3 _ _ eD, hf2, Nat.le_of_lt (Nat.lt_of_le_of_lt (by omega : ys.length + us2.length ≤ 200000) (by decide)), fun b hb => ?_⟩
        have s4 := same_new (o := HO.lst (ys ++ us2)) hb
        have s14 := s2.trans (s3.trans s4)
        have sA := s1.trans s14
        have s03 := s12.trans s3
        refine q _ b _ _ ((ntH_sub H).trans sA) (hT.ext sA) (ntH_none (s03.free hb)) upd_same (dpa_app (all2_dpa (f := fun os => .list ((nints os).map PyData.int)) (fun v e h => dp_same (fr_sub.trans s14) (ordAt_dp h)) hys) (all2_dpa (f := dFr) (fun v e h => dp_same (fr_sub.trans s4) (frAt_dp h)) hFr2)) (.inr (.inr (.inr (.inl ⟨rfl, F2, hF, hF5, hFe, by rw [List.map_map]; rfl⟩)))) (fun x hx => ?_)
        rcases List.mem_append.mp hx with hx | hx
        · obtain ⟨i, hi, rfl⟩ := List.getElem_of_mem hx
          obtain ⟨os, hos, o, e, ho⟩ := all2_at hys (List.getElem?_eq_getElem hi)
          obtain ⟨e0, e1⟩ := nw_of (fr_nw _ _ ho)
          have hosl : os.length = l.length := by
            obtain ⟨e5, he5, rfl⟩ := List.mem_map.mp (List.mem_of_getElem? hos)
            exact hFe e5 he5
          exact .inr (.inr (.inr ⟨o, _, e, s14 _ _ e1, ntH_none e0, by rw [List.length_map, nints_len, hosl]; omega, ne_of_none ((s2.trans s3) _ _ e1) hb⟩))
        · obtain ⟨i, hi, rfl⟩ := List.getElem_of_mem hx
          obtain ⟨k, hk, t, o, e, ht, ho⟩ := all2_at hFr2 (List.getElem?_eq_getElem hi)
          exact .inr (.inr (.inl ⟨t, _, e, SqT.of (s4 _ _ (fr_sub _ _ ht))⟩))
    · obtain rfl : wy = 4 := by
        have h0 : wy ≠ 0 := fun z => n0 (congrArg V.int z)
        have h1 : wy ≠ 1 := fun z => n1 (congrArg V.int z)
        have h2 : wy ≠ 2 := fun z => n2 (congrArg V.int z)
        have h3 : wy ≠ 3 := fun z => n3 (congrArg V.int z)
        omega
      refine ⟨_, rfl, _, rfl, v, .ref ua, d, l, rfl, hd, ha, g, ga, fun H1 s1 => ?_⟩
      refine ⟨_, rfl, _, rfl, _, rfl, v, .ref ua, d, l, rfl, dp_same s1 hd, dp_same s1 ha, g, ga, fun H2 s2 => ?_⟩
      refine ⟨v, d, l, rfl, dp_same (s1.trans s2) hd, g, ga, fun H3 p xs s3 hp0 hp hxs => ?_⟩
      refine ⟨(by show 2 ≤ sizeLine; decide), fun b hb => ?_⟩
      have s4 := same_new (o := HO.lst [V.str (textS l), V.ref p]) hb
      have s13 := s1.trans (s2.trans s3)
      have sA := s13.trans s4
      refine q _ b _ _ ((ntH_sub H).trans sA) (hT.ext sA) (ntH_none (s13.free hb)) upd_same (.cons (.str _) (.cons (.lst (SqL.of (s4 _ _ hp)) (dpa_same s4 hxs)) .nil)) (.inr (.inr (.inr (.inr ⟨rfl, rfl⟩)))) (fun x hx => ?_)
      rcases List.mem_cons.mp hx with rfl | hx
      · exact .inr (.inl ⟨_, rfl⟩)
      · rw [List.mem_singleton.mp hx]
        exact .inr (.inr (.inr ⟨p, xs, rfl, s4 _ _ hp, ntH_none ((s1.trans s2).free hp0), by rw [dpa_len hxs, List.length_map]; omega, ne_of_none hp hb⟩))
end
end Ag

namespace Ag
open PySem PySem.Spec PyProof.Rows L2
/-! ### the law -/
open LamX NdefX
abbrev s_law : Stmt := top 49
def sp_law (K : PySem.W.Frag) (T : List (Addr × Str)) : Sp := fun vs H Q _ => ∃ (a : Addr) (ns : List Int), vs = [.ref a] ∧ ScrAt K H a ns ∧ Tabs T H ∧ ∀ H', Q (.bl true) H'
theorem sc_law : FnScope ["_law_script", "_law_row", "_law_some", "_law_k", "_law_first", "_law_kept", "_law_turn", "_law_disk_here", "_law_way", "_law_told", "_law_one", "_law_case"] ["_law_script"] (defScope s_law) := ⟨rfl, rfl, rfl, by decide +kernel, rfl, by decide +kernel, by decide +kernel⟩
theorem sqt_but {K : PySem.W.Frag} {H H' : Hp} {S a : Addr} {ys xs : List V} (e : H S = some (.lst ys)) (s : SameBut S H H') (h : SqT K H a xs) : SqT K H' a xs := by
  rcases h with (h | ⟨o, h⟩) | h
  · exact .inl (.inl (s _ _ (ne_of h e (by intro z; cases z)) h))
  · exact .inl (.inr ⟨o, s _ _ (ne_of h e (by intro z; cases z)) h⟩)
  · exact .inr h
theorem dpa_asks_but {K : PySem.W.Frag} {H H' : Hp} {S : Addr} {ys : List V} (e : H S = some (.lst ys)) (s : SameBut S H H') : ∀ {l : List Ask} {xs : List V}, DpAll K H xs (l.map dAsk) → DpAll K H' xs (l.map dAsk)
  | [], _, h => by cases h; exact .nil
  | q :: l, _, h => by
    cases h with
    | cons h1 h2 =>
      obtain ⟨p, rfl, ht⟩ := dp_tints h1
      exact .cons (dp_tints_of (sqt_but e s ht)) (dpa_asks_but e s h2)
/-- a disk and its asks, drawn: the asks a list at u with the items us -/
def ItemAt (K : PySem.W.Frag) (G : Hp) (x : V) (k : Disk × List Ask) : Prop := ∃ (t u : Addr) (v : V) (us : List V), x = .ref t ∧ G t = some (.tup [v, .ref u]) ∧ Dp K G v (dDisk k.1) ∧ G u = some (.lst us) ∧ DpAll K G us (k.2.map dAsk) ∧ GoodDisk k.1 ∧ GoodAsks k.1 k.2 ∧ k.2.length ≤ 5
theorem itemAt_same {K : PySem.W.Frag} {G G' : Hp} {x : V} {k : Disk × List Ask} (s : Same G G') : ItemAt K G x k → ItemAt K G' x k
  | ⟨t, u, v, us, h0, h1, h2, h3, h4, h5⟩ => ⟨t, u, v, us, h0, s _ _ h1, dp_same s h2, s _ _ h3, dpa_same s h4, h5⟩
/-- a copy of the asks -/
def CopyAt (K : PySem.W.Frag) (G : Hp) (x : V) (k : Disk × List Ask) : Prop := ∃ (u : Addr) (us : List V), x = .ref u ∧ G u = some (.lst us) ∧ DpAll K G us (k.2.map dAsk)
theorem copyAt_same {K : PySem.W.Frag} {G G' : Hp} {x : V} {k : Disk × List Ask} (s : Same G G') : CopyAt K G x k → CopyAt K G' x k
  | ⟨u, us, h0, h1, h2⟩ => ⟨u, us, h0, s _ _ h1, dpa_same s h2⟩
/-- what was told at first, kept -/
def KeptAt (K : PySem.W.Frag) (G : Hp) (x : V) (k : Disk × List Ask) : Prop := ∃ (u : Addr) (zs : List V), x = .ref u ∧ G u = some (.lst zs) ∧ zs.length = 5 ∧ ∀ (j : Nat) (z : V), zs[j]? = some z → ∃ ds, AnsIs k.1 k.2 (j : Int) ds ∧ Dp K G z (.list ds)
theorem keptAt_same {K : PySem.W.Frag} {G G' : Hp} {x : V} {k : Disk × List Ask} (s : Same G G') : KeptAt K G x k → KeptAt K G' x k
  | ⟨u, zs, h0, h1, h2, h3⟩ => ⟨u, zs, h0, s _ _ h1, h2, fun j z hj => by
    obtain ⟨ds, h4, h5⟩ := h3 j z hj
    exact ⟨ds, h4, dp_same s h5⟩⟩
/-- the heap less some places -/
def exc (H : Hp) (L : List Addr) : Hp := fun b => if b ∈ L then none else H b
theorem exc_some {H : Hp} {L : List Addr} {b : Addr} {o : HO} : exc H L b = some o ↔ b ∉ L ∧ H b = some o := by
  unfold exc
  by_cases h : b ∈ L
  · rw [if_pos h]
    exact ⟨(fun z => by cases z), (fun z => absurd h z.1)⟩
  · rw [if_neg h]
    exact ⟨fun z => ⟨h, z⟩, fun z => z.2⟩
theorem exc_sub {H : Hp} {L : List Addr} : Same (exc H L) H := fun b o e => (exc_some.mp e).2
theorem itemAt_nt {K : PySem.W.Frag} {H : Hp} {x : V} {k : Disk × List Ask} : ItemAt K H x k → ItemAt K (ntH H) x k
  | ⟨t, u, v, us, h0, h1, h2, h3, h4, h5⟩ => ⟨t, u, v, us, h0, ntH_some.mpr ⟨h1, fun ps q => by cases q⟩, dp_nt h2, ntH_some.mpr ⟨h3, fun ps q => by cases q⟩, dpa_nt h4, h5⟩
theorem copyAt_nt {K : PySem.W.Frag} {H : Hp} {x : V} {k : Disk × List Ask} : CopyAt K H x k → CopyAt K (ntH H) x k
  | ⟨u, us, h0, h1, h2⟩ => ⟨u, us, h0, ntH_some.mpr ⟨h1, fun ps q => by cases q⟩, dpa_nt h2⟩
theorem same_nt {G H : Hp} (s : Same G H) (n : ∀ b ps, G b ≠ some (.tbl ps)) : Same G (ntH H) := fun b o e => ntH_some.mpr ⟨s b o e, fun ps q => n b ps (q ▸ e)⟩
theorem exc_nt {H : Hp} {L : List Addr} : ∀ b ps, exc (ntH H) L b ≠ some (.tbl ps) := fun b ps e => (ntH_some.mp (exc_some.mp e).2).2 ps rfl
theorem mut_upd {K : PySem.W.Frag} {G H : Hp} {p a : Addr} {n : Nat} {x : V} {ys ys' : List V} (e : H a = some (.lst ys)) (hl : ys'.length ≤ n + 1) (ga : G a = none) (ne : a ≠ p) {o : HO} (h : Mut K G H p n x) : Mut K G (upd (upd H a o) a (.lst ys')) p (n + 1) x := by
  have sb : SameBut a H (upd (upd H a o) a (.lst ys')) := sb_upd (sb_upd sb_refl)
  rcases h with h | h | ⟨t, zs, rfl, h⟩ | ⟨b, zs, rfl, h, h2, h3, h4⟩
  · exact .inl h
  · exact .inr (.inl h)
  · exact .inr (.inr (.inl ⟨t, zs, rfl, sqt_but e sb h⟩))
  · by_cases z : b = a
    · subst z
      exact .inr (.inr (.inr ⟨b, ys', rfl, upd_same, ga, hl, ne⟩))
    · exact .inr (.inr (.inr ⟨b, zs, rfl, sb _ _ z h, h2, by omega, h4⟩))
theorem sqt_ty {K : PySem.W.Frag} {H : Hp} {t : Addr} {ys : List V} (h : SqT K H t ys) : TyX K H (.ref t) (.type "tuple") := by
  rcases h with (h | ⟨o, h⟩) | ⟨o, its, n, h, c, _⟩
  · exact .base (.tup h)
  · exact .fTuple h
  · exact .kTuple h c
def rLo (K : PySem.W.Frag) : List V → Hp → VK → Prop := fun xs H Q => ∃ p ys, xs = [V.ref p] ∧ (SqL K H p ys ∨ SqT K H p ys) ∧ ∀ l, H l = none → Q (V.ref l) (upd H l (HO.lst ys))
theorem cr_listK {X : Cx} {K : PySem.W.Frag} (hK : X.K = K := by rfl) : CallR X (.type "list") (rLo K) := by
  subst hK
  exact call_list_of
section
variable {P : Program} {w : World} {K : PySem.W.Frag} {mg : Str → Option Value} {base : Heap}
set_option maxHeartbeats 16000000 in
theorem ok_law {f fT fD fA fW fC fL : Addr} {fd fdT fdD fdA fdW fdC fdL : FuncData} {T : List (Addr × Str)} (F : Fun K "law" "law" s_law f fd)
    (G__law_taken : FnOk P w K mg base CX0 1 fT fdT ["_law_row", "_law_many"] (sp_l_taken K)) (C__law_taken : Cal K mg "_law_taken" fT fdT ["_law_row", "_law_many"])
    (G__law_disk : FnOk P w K mg base CX0 2 fD fdD ["_law_row"] (sp_l_disk K)) (C__law_disk : Cal K mg "_law_disk" fD fdD ["_law_row"])
    (G__law_asks : FnOk P w K mg base CX0 2 fA fdA ["_law_row", "_law_disk_here", "_law_most"] (sp_l_asks K)) (C__law_asks : Cal K mg "_law_asks" fA fdA ["_law_row", "_law_disk_here", "_law_most"])
    (G__law_answer : FnOk P w K mg base CX0 11 fW fdW ["_law_way", "_law_disk_here", "_law_asks_here"] (sp_l_answer K T)) (C__law_answer : Cal K mg "_law_answer" fW fdW ["_law_way", "_law_disk_here", "_law_asks_here"])
    (G__law_copied : FnOk P w K mg base CX0 5 fC fdC ["_law_told"] (sp_l_copied 4 K)) (C__law_copied : Cal K mg "_law_copied" fC fdC ["_law_told"])
    (G__law_alike : FnOk P w K mg base CX0 5 fL fdL ["_law_found", "_law_due"] (sp_l_alike 4 K)) (C__law_alike : Cal K mg "_law_alike" fL fdL ["_law_found", "_law_due"])
    (mb_range : mg "range" = none) (mb_list : mg "list" = none) (mb_isinstance : mg "isinstance" = none) : FnOk P w K mg base CX0 12 f fd ["_law_script"] (sp_law K T) := by
  refine F.ok sc_law (fun vs H Q E h => ?_) (fun cdv A outer s H vs Q E hr h => ?_)
  · obtain ⟨a, ns, rfl, _⟩ := h
    rfl
  · obtain ⟨a, ns, rfl, hS, hT0, q⟩ := h
    have nd := sc_law.nd
    have hr__law_taken : Room 1 _ := hr.mono (by decide)
    have hr__law_disk : Room 2 _ := hr.mono (by decide)
    have hr__law_asks : Room 2 _ := hr.mono (by decide)
    have hr__law_answer : Room 11 _ := hr
    have hr__law_copied : Room 5 _ := hr.mono (by decide)
    have hr__law_alike : Room 5 _ := hr.mono (by decide)
    refine ⟨_, (pss_cons (ps_set (i := 1) nd rfl (.inl rfl) (pe_lst (pa_cons (pv 0) (pa_cons pe_int (pa_cons pe_int pa_nil)))))
      (pss_cons (ps_set (i := 2) nd rfl (.inl rfl) (pe_lst pa_nil))
      (pss_cons (ps_for PassesOwn.never rfl (pi_range1 rfl mb_range (pa_cons pe_int pa_nil)) (pg_name (i := 3) nd rfl (.inl rfl))
        (pss_cons (ps_set (i := 7) nd rfl (.inl rfl) (pe_call G__law_disk hr__law_disk rfl C__law_disk.m C__law_disk.k C__law_disk.b .nil pass0 (pa_cons (pv 1) pa_nil)))
      (pss_one (ps_expr (pe_bm PySem.F.plainAttrs_list PySem.F.slot_list_append PySem.F.type_list_append mt_append (pv 2) (pa_cons (pe_tup (pa_cons (pv 7) (pa_cons (pe_call G__law_asks hr__law_asks rfl C__law_asks.m C__law_asks.k C__law_asks.b .nil pass0 (pa_cons (pv 1) (pa_cons (pv 7) (pa_cons pe_int pa_nil)))) pa_nil))) pa_nil))))))
      (pss_cons (ps_setLc (i := 4) (own := [("_law_case", 11)]) (g := (gName 11)) (tt := tYes) rfl nd rfl rfl (sw_true rfl rfl rfl (by decide +kernel)) (pi_list (pv 2)) (blkOk_by (own := [("_law_case", 11)]) (N := ["_law_script", "_law_row", "_law_some", "_law_k", "_law_first", "_law_kept", "_law_turn", "_law_disk_here", "_law_way", "_law_told", "_law_one", "_law_case"]) (sc := defScope s_law) (by decide +kernel)) (fun _ _ _ _ _ => (pg_name (i := 11) nd rfl (.inl rfl))) (fun _ _ _ _ _ => pts_nil) (fun _ _ _ _ _ => (pe_callTy (r := rLo K) (cr_listK (K := K)) (by rfl) mb_list (by decide +kernel) (pa_cons (pe_ix (r := rIxT K) ix_tup (pv 11) pe_int (fun _ _ => rfl)) pa_nil))))
      (pss_cons (ps_setLc (i := 5) (own := [("_law_case", 11)]) (g := (gName 11)) (tt := tYes) rfl nd rfl rfl (sw_true rfl rfl rfl (by decide +kernel)) (pi_list (pv 2)) (blkOk_by (own := [("_law_case", 11)]) (N := ["_law_script", "_law_row", "_law_some", "_law_k", "_law_first", "_law_kept", "_law_turn", "_law_disk_here", "_law_way", "_law_told", "_law_one", "_law_case"]) (sc := defScope s_law) (by decide +kernel)) (fun _ _ _ _ _ => (pg_name (i := 11) nd rfl (.inr rfl))) (fun _ _ _ _ _ => pts_nil) (fun _ _ _ _ _ => (pe_lc (own := [("_law_way", 8)]) (g := (gName 8)) (tt := tYes) rfl nd (pi_range1 rfl mb_range (pa_cons pe_int pa_nil)) (blkOk_by (own := [("_law_way", 8)]) (N := ["_law_script", "_law_row", "_law_some", "_law_k", "_law_first", "_law_kept", "_law_turn", "_law_disk_here", "_law_way", "_law_told", "_law_one", "_law_case"]) (by show blkC _ (Scope.mk .function [(".0", .local), ("_law_case", .cell), ("range", .globalImplicit)] false false []) _ _ = true; decide +kernel)) (fun _ _ _ _ _ => (pg_name (i := 8) nd rfl (.inl rfl))) (fun _ _ _ _ _ => pts_nil) (fun _ _ _ _ _ => (pe_call G__law_copied hr__law_copied rfl C__law_copied.m C__law_copied.k C__law_copied.b .nil pass0 (pa_cons (pe_call G__law_answer hr__law_answer rfl C__law_answer.m C__law_answer.k C__law_answer.b .nil pass0 (pa_cons (pv 8) (pa_cons (pe_ix (r := rIxT K) ix_tup (pv 11) pe_int (fun _ _ => rfl)) (pa_cons (pe_ix (r := rIxT K) ix_tup (pv 11) pe_int (fun _ _ => rfl)) pa_nil)))) pa_nil))))))
      (pss_cons (ps_for PassesOwn.never rfl (pi_range1 rfl mb_range (pa_cons (pe_op op_add pe_int (pe_call G__law_taken hr__law_taken rfl C__law_taken.m C__law_taken.k C__law_taken.b .nil pass0 (pa_cons (pv 1) (pa_cons pe_int pa_nil)))) pa_nil)) (pg_name (i := 6) nd rfl (.inl rfl))
        (pss_cons (ps_set (i := 3) nd rfl (.inl rfl) (pe_call G__law_taken hr__law_taken rfl C__law_taken.m C__law_taken.k C__law_taken.b .nil pass0 (pa_cons (pv 1) (pa_cons pe_int pa_nil))))
      (pss_cons (ps_set (i := 8) nd rfl (.inl rfl) (pe_call G__law_taken hr__law_taken rfl C__law_taken.m C__law_taken.k C__law_taken.b .nil pass0 (pa_cons (pv 1) (pa_cons pe_int pa_nil))))
      (pss_cons (ps_set (i := 9) nd rfl (.inl rfl) (pe_call G__law_answer hr__law_answer rfl C__law_answer.m C__law_answer.k C__law_answer.b .nil pass0 (pa_cons (pv 8) (pa_cons (pe_ix (r := rIxT K) ix_tup (pe_ix (r := rIxL K) ix_list (pv 2) (pv 3) (fun _ _ => rfl)) pe_int (fun _ _ => rfl)) (pa_cons (pe_ix (r := rIxT K) ix_tup (pe_ix (r := rIxL K) ix_list (pv 2) (pv 3) (fun _ _ => rfl)) pe_int (fun _ _ => rfl)) pa_nil)))))
      (pss_cons (ps_if (PW.pt (pw_or (pt_not (pt_val (pe_call G__law_alike hr__law_alike rfl C__law_alike.m C__law_alike.k C__law_alike.b .nil pass0 (pa_cons (pv 9) (pa_cons (pe_ix (r := rIxL K) ix_list (pe_ix (r := rIxL K) ix_list (pv 5) (pv 3) (fun _ _ => rfl)) (pv 8) (fun _ _ => rfl)) pa_nil))))) (pw_or1 (pt_cmpR (op_neD hr.units) (pe_ix (r := rIxT K) ix_tup (pe_ix (r := rIxL K) ix_list (pv 2) (pv 3) (fun _ _ => rfl)) pe_int (fun _ _ => rfl)) (pe_ix (r := rIxL K) ix_list (pv 4) (pv 3) (fun _ _ => rfl)) (nomark _))))) (pss_one (ps_ret pe_bl)) pss_nil)
      (pss_cons (ps_for PassesOwn.never rfl (pi_list (pv 9)) (pg_name (i := 10) nd rfl (.inl rfl))
        (pss_one (ps_if (pt_val (pe_callB (r := rIsi K) call_isi (by rfl) mb_isinstance (by decide +kernel) (pa_cons (pv 10) (pa_cons (pe_bltn (v := .ty "list") rfl mb_list (by decide +kernel) rfl) pa_nil)))) (pss_cons (ps_expr (pe_bm PySem.F.plainAttrs_list PySem.F.slot_list_append PySem.F.type_list_append mt_append (pv 10) (pa_cons pe_int pa_nil)))
      (pss_one (ps_expr (pe_bm0 PySem.F.plainAttrs_list PySem.F.slot_list_reverse PySem.F.type_list_reverse mt_reverse (pv 10))))) pss_nil)))
      (pss_one (ps_expr (pe_bm PySem.F.plainAttrs_list PySem.F.slot_list_append PySem.F.type_list_append mt_append (pv 9) (pa_cons pe_int pa_nil))))))))))
      (pss_one (ps_ret pe_bl)))))))), ?_⟩
    refine ⟨_, rfl, (by show 3 ≤ sizeLine; decide), fun r hr0 => ?_⟩
    have hR0 := row_start hS hr0
    have s0 := same_new (o := HO.lst [V.ref a, V.int 0, V.int 0]) hr0
    have hT1 : Tabs T _ := hT0.ext s0
    revert hR0 hT1
    show RowAt K (upd H r (HO.lst [V.ref a, V.int 0, V.int 0])) r → Tabs T (upd H r (HO.lst [V.ref a, V.int 0, V.int 0])) → _
    generalize upd H r (HO.lst [V.ref a, V.int 0, V.int 0]) = Ha
    intro hR0 hT1
    refine ⟨Nat.zero_le _, fun S hS0 => ?_⟩
    have nS : S ≠ r := hR0.ne hS0
    have sS := same_new (o := HO.lst []) hS0
    refine ⟨2, rfl, by decide, by decide, ?_⟩
    refine for_range (lo := 0) (n := 2) (fun i σ H' => RowAt K H' r ∧ Tabs T H' ∧ ∃ (ps : List V) (ks : List (Disk × List Ask)) (v3 v4 v5 v6 v7 v8 v9 v10 v11 : Option V), σ = [some (.ref a), some (.ref r), some (.ref S), v3, v4, v5, v6, v7, v8, v9, v10, v11] ∧
        H' S = some (.lst ps) ∧ ks.length = i ∧ All2 (ItemAt K (wo (wo H' r) S)) ps ks) ⟨hR0.but sS, hT1.ext sS, [], [], none, none, none, none, none, none, none, none, none, rfl, upd_same, rfl, trivial⟩ ?_ ?_
    · rintro i σ H0 hi ⟨hR, hT, ps, ks, v3, v4, v5, v6, v7, v8, v9, v10, v11, rfl, eS, hkl, hps⟩
      have hpl := all2_len hps
      refine ⟨_, rfl, r, rfl, hR, fun H1 pd d g hR1 sb1 npd ed => ?_⟩
      have hTa := tabs_row hT hR sb1
      have eS1 := sb1 _ _ nS eS
      have dpd1 : Dp K (wo H1 r) (.ref pd) (dDisk d) := dp_tints_of (.inl (.inl (by rw [wo_ne npd]; exact ed)))
      refine ⟨_, rfl, .inl ⟨rfl, _, SqL.of eS1⟩, ?_⟩
      refine ⟨_, rfl, _, rfl, _, rfl, r, .ref pd, d, 5, rfl, hR1, dpd1, g, by decide, by decide, fun H3 pa l xs ga hl hR3 sb3 npa hpa0 epa hda => ?_⟩
      have hTb := tabs_row hTa hR1 sb3
      refine ⟨(by show 2 ≤ sizeLine; decide), fun t ht => ?_⟩
      have eS3 := sb3 _ _ nS eS1
      have nSt : S ≠ t := ne_of_none eS3 ht
      have ntr : t ≠ r := hR3.ne ht
      have nSpa : S ≠ pa := ne_of_none eS1 hpa0
      have nSpd : S ≠ pd := ne_of eS1 ed (by intro z; cases z)
      have ed3 := sb3 _ _ npd ed
      have npdt : pd ≠ t := ne_of_none ed3 ht
      have npat : pa ≠ t := ne_of_none epa ht
      have sba := sb_trans sb1 sb3
      have sT := same_new (o := HO.tup [V.ref pd, V.ref pa]) ht
      refine ⟨S, ps, .ref t, rfl, rfl, by rw [upd_ne nSt]; exact eS3, small1000 (by omega), ?_⟩
      refine ⟨(hR3.but sT).put nS (by rw [upd_ne nSt]; exact eS3), tabs_upd (hTb.ext sT) (by rw [upd_ne nSt]; exact eS3) (by intro _ q; cases q) (by intro _ q; cases q), ps ++ [.ref t], ks ++ [(d, l)], _, _, _, _, _, _, _, _, _, rfl, upd_same, by rw [List.length_append, hkl]; rfl, ?_⟩
      refine all2_snoc ?_ (all2_mono (fun x k h => itemAt_same (wo2_step fun b o n1 n2 e => ?_) h) hps)
      · refine ⟨t, pa, .ref pd, xs, rfl, ?_, ?_, ?_, ?_, g, ga, by show l.length ≤ 5; omega⟩
        · rw [wo_ne nSt.symm, wo_ne ntr, upd_ne nSt.symm, upd_same]
        · exact dp_tints_of (.inl (.inl (by rw [wo_ne nSpd.symm, wo_ne npd, upd_ne nSpd.symm, upd_ne npdt]; exact ed3)))
        · rw [wo_ne nSpa.symm, wo_ne npa, upd_ne nSpa.symm, upd_ne npat]
          exact epa
        · refine dpa_asks_but (S := S) (ys := ps) (by rw [wo_ne nS]; exact eS3) (fun b o n e => ?_) (dpa_same wo_sub hda)
          have nbr : b ≠ r := fun z => by rw [z, wo_at] at e; cases e
          rw [wo_ne nbr] at e
          rw [wo_ne n, wo_ne nbr, upd_ne n, upd_ne (ne_of_none e ht)]
          exact e
      · rw [upd_ne n2, upd_ne (ne_of_none (sba b o n1 e) ht)]
        exact sba b o n1 e
    · rintro σ H0 ⟨hR, hT, ps, ks, v3, v4, v5, v6, v7, v8, v9, v10, v11, rfl, eS, hkl, hps⟩
      have hpl := all2_len hps
      have hps0 : All2 (ItemAt K (exc (ntH H0) [r])) ps ks := all2_mono (fun x k h => itemAt_same (fun b o e => by
        obtain ⟨e1, e2⟩ := ntH_some.mp e
        have n1 : b ≠ S := fun z => by rw [z, wo_at] at e1; cases e1
        rw [wo_ne n1] at e1
        have n2 : b ≠ r := fun z => by rw [z, wo_at] at e1; cases e1
        rw [wo_ne n2] at e1
        exact exc_some.mpr ⟨by simpa using n2, ntH_some.mpr ⟨e1, e2⟩⟩) (itemAt_nt h)) hps
      show Ends.nx _ [some (.ref a), some (.ref r), some (.ref S), v3, v4, v5, v6, v7, v8, v9, v10, v11] _
      refine ⟨_, rfl, S, rfl, ⟨_, SqL.of eS⟩, fun D1 hD1 => ?_⟩
      refine lc_list (K := K) (a := S) (xs := ps) (fun i H' => Same H0 H' ∧ ∃ ys, H' D1 = some (.lst ys) ∧ All2 (CopyAt K (exc (ntH H') [r, D1])) ys (ks.take i)) ⟨same_new hD1, [], upd_same, trivial⟩ (fun i H' _ ⟨s, _⟩ => SqL.of (s _ _ eS)) ?_ ?_
      · rintro i x H' hi ⟨s1, ys, eD, hys⟩
        obtain ⟨k, hk, t, u, v, us, rfl, ht, hv, hu, hus, _⟩ := all2_at hps0 hi
        have ht' := (ntH_some.mp (exc_some.mp ht).2).1
        have hu' := (ntH_some.mp (exc_some.mp hu).2).1
        have hyl : ys.length ≤ 2 := by rw [all2_len hys, List.length_take]; omega
        refine ⟨rfl, _, rfl, t, _, 1, _, rfl, rfl, SqT.of (s1 _ _ ht'), atI_nat (j := 1) rfl, u, us, rfl, .inl (SqL.of (s1 _ _ hu')), fun c hc => ?_⟩
        have s2 := same_new (o := HO.lst us) hc
        have s12 := s1.trans s2
        have eD2 := s2 _ _ eD
        have nDc : D1 ≠ c := ne_of_none eD hc
        have hR' := hR.but s1
        have nrc : c ≠ r := hR'.ne hc
        refine ⟨ys, eD2, small1000 (by omega), same_upd s12 hD1, ys ++ [.ref c], upd_same, ?_⟩
        rw [take_more hk]
        have q1 : Same (exc (ntH H0) [r]) (exc (ntH (upd (upd H' c (.lst us)) D1 (.lst (ys ++ [.ref c])))) [r, D1]) := fun b o e => by
          obtain ⟨e1, e2⟩ := exc_some.mp e
          obtain ⟨e2, e3⟩ := ntH_some.mp e2
          have n1 : b ≠ r := by simpa using e1
          have n2 : b ≠ D1 := ne_of_none e2 hD1
          exact exc_some.mpr ⟨by simp [n1, n2], ntH_some.mpr ⟨by rw [upd_ne n2]; exact s12 _ _ e2, e3⟩⟩
        have q2 : Same (exc (ntH H') [r, D1]) (exc (ntH (upd (upd H' c (.lst us)) D1 (.lst (ys ++ [.ref c])))) [r, D1]) := fun b o e => by
          obtain ⟨e1, e2⟩ := exc_some.mp e
          obtain ⟨e2, e3⟩ := ntH_some.mp e2
          have n2 : b ≠ D1 := fun z => e1 (by simp [z])
          exact exc_some.mpr ⟨e1, ntH_some.mpr ⟨by rw [upd_ne n2]; exact s2 _ _ e2, e3⟩⟩
        exact all2_snoc ⟨c, us, rfl, exc_some.mpr ⟨by simp [nrc, nDc.symm], ntH_some.mpr ⟨by rw [upd_ne nDc.symm, upd_same], fun ps q => by cases q⟩⟩, dpa_same q1 hus⟩ (all2_mono (fun x k h => copyAt_same q2 h) hys)
      · rintro H1 ⟨s1, fs, eD1, hfs⟩
        rw [List.take_of_length_le (by omega)] at hfs
        have hR1 := hR.but s1
        have hT1' := hT.ext s1
        have eS1 := s1 _ _ eS
        have hps1 : All2 (ItemAt K (exc (ntH H1) [r])) ps ks := all2_mono (fun x k h => itemAt_same (fun b o e => by
          obtain ⟨e1, e2⟩ := exc_some.mp e
          obtain ⟨e2, e3⟩ := ntH_some.mp e2
          exact exc_some.mpr ⟨e1, ntH_some.mpr ⟨s1 _ _ e2, e3⟩⟩) h) hps0
        have nD1 : D1 ≠ r := hR.ne hD1
        have hfs1 : All2 (CopyAt K (exc (ntH H1) [r])) fs ks := all2_mono (fun x k h => copyAt_same (fun b o e => by
          obtain ⟨e1, e2⟩ := exc_some.mp e
          exact exc_some.mpr ⟨fun z => e1 (by simp at z; simp [z]), e2⟩) h) hfs
        show gName 4 (V.ref D1) [some (.ref a), some (.ref r), some (.ref S), v3, v4, v5, v6, v7, v8, v9, v10, v11] _ _
        refine ⟨_, rfl, S, rfl, ⟨_, SqL.of eS1⟩, fun D2 hD2 => ?_⟩
        have nD2 : D2 ≠ r := hR1.ne hD2
        have sD2 := same_new (o := HO.lst []) hD2
        refine lc_list (K := K) (a := S) (xs := ps) (fun i H' => Same (ntH H1) H' ∧ Tabs T H' ∧ ∃ ys, H' D2 = some (.lst ys) ∧ All2 (KeptAt K (exc (ntH H') [r, D2])) ys (ks.take i)) ⟨(ntH_sub H1).trans sD2, hT1'.ext sD2, [], upd_same, trivial⟩ (fun i H' _ ⟨s, _⟩ => SqL.of (s _ _ (ntH_some.mpr ⟨eS1, fun ps q => by cases q⟩))) ?_ ?_
        · rintro i x H' hi ⟨s2, hT2, ys, eD, hys⟩
          obtain ⟨k, hk, t, u, v, us, rfl, ht, hv, hu, hus, gd, ga, hl5⟩ := all2_at hps1 hi
          have hyl : ys.length ≤ 2 := by rw [all2_len hys, List.length_take]; omega
          have s2' : Same (exc (ntH H1) [r]) H' := exc_sub.trans s2
          refine ⟨rfl, 5, rfl, by decide, by decide, fun En hEn => ?_⟩
          have nED : D2 ≠ En := ne_of_none eD hEn
          have fR' : RowAt K H' r := (rowAt_nt hR1).but s2
          have nEr : En ≠ r := fR'.ne hEn
          have sE := same_new (o := HO.lst []) hEn
          refine lc_range (lo := 0) (n := 5) (fun j H'' => Same (ntH H') H'' ∧ Tabs T H'' ∧ ∃ zs, H'' En = some (.lst zs) ∧ zs.length = j ∧ ∀ (m : Nat) (z : V), zs[m]? = some z → ∃ ds, AnsIs k.1 k.2 (m : Int) ds ∧ Dp K (exc (ntH H'') [r, D2, En]) z (.list ds))
            ⟨(ntH_sub H').trans sE, hT2.ext sE, [], upd_same, rfl, fun m z hz => by simp at hz⟩ ?_ ?_
          · rintro j H3 hj ⟨s3, hT3, zs, eE, hzl, hzs⟩
            have s23 : Same (exc (ntH H1) [r]) H3 := (same_nt s2' exc_nt).trans s3
            have ht3 := s23 _ _ ht
            have hu3 := s23 _ _ hu
            have gE : ntH H' En = none := ntH_none hEn
            refine ⟨rfl, _, rfl, _, rfl, t, _, 0, _, rfl, rfl, SqT.of ht3, atI_nat (j := 0) rfl, _, rfl, t, _, 1, _, rfl, rfl, SqT.of ht3, atI_nat (j := 1) rfl, ?_⟩
            refine ⟨0 + (j : Int), v, .ref u, k.1, k.2, rfl, by omega, by omega, dp_same s23 hv, .lst (SqL.of hu3) (dpa_same s23 hus), gd, ga, hl5, hT3, fun H4 p xs ds s4 hT4 gp hp hda hans hmut => ?_⟩
            refine ⟨.ref p, .list ds, rfl, .lst (SqL.of hp) hda, ans_ok hl5 hans, fun H5 y s5 hy => ?_⟩
            have n35 : ∀ {b : Addr} {o : HO}, H3 b = some o → (∀ ps, o ≠ .tbl ps) → H5 b = some o := fun h n => s5 _ _ (s4 _ _ (ntH_some.mpr ⟨h, n⟩))
            have eE5 := n35 eE (fun ps q => by cases q)
            have n4 : ∀ {b : Addr} {o : HO}, H3 b = some o → (∀ ps, o ≠ .tbl ps) → H4 b = some o := fun h n => s4 _ _ (ntH_some.mpr ⟨h, n⟩)
            have eE4 := n4 eE (fun ps q => by cases q)
            have eD3 := s3 _ _ (ntH_some.mpr ⟨eD, fun ps q => by cases q⟩)
            have eD4 := n4 eD3 (fun ps q => by cases q)
            obtain ⟨ra, rns, rpos, rmix, _, er3, _⟩ := (rowAt_nt fR').but s3
            have er4 := n4 er3 (fun ps q => by cases q)
            have s35 : Same (ntH H') H5 := (ntH_idem s3).trans (s4.trans s5)
            refine ⟨zs, eE5, small1000 (by omega), same_upd s35 gE, tabs_upd (hT4.ext s5) eE5 (by intro _ q; cases q) (by intro _ q; cases q), zs ++ [y], upd_same, by rw [List.length_append, hzl]; rfl, fun m z hz => ?_⟩
            have hj0 : (0 : Int) + (j : Int) = (j : Int) := Int.zero_add _
            rw [hj0] at hans
            rcases Nat.lt_or_ge m zs.length with hlt | hge
            · rw [List.getElem?_append_left hlt] at hz
              obtain ⟨ds', h1, h2⟩ := hzs m z hz
              refine ⟨ds', h1, dp_same (fun b o e => ?_) h2⟩
              obtain ⟨e1, e2⟩ := exc_some.mp e
              obtain ⟨e2, e3⟩ := ntH_some.mp e2
              have nb : b ≠ En := fun z => e1 (by simp [z])
              exact exc_some.mpr ⟨e1, ntH_some.mpr ⟨by rw [upd_ne nb]; exact n35 e2 e3, e3⟩⟩
            · rw [List.getElem?_append_right hge] at hz
              have hm : m = zs.length := by
                have := (List.getElem?_eq_some_iff.mp hz).1
                simp at this
                omega
              rw [hm, Nat.sub_self] at hz
              obtain rfl : y = z := Option.some.inj hz
              refine ⟨ds, by rw [hm, hzl]; exact hans, dp_same (fun b o e => ?_) (dp_nt hy)⟩
              obtain ⟨e1, e2⟩ := ntH_some.mp e
              obtain ⟨e3, e4⟩ := nw_of e1
              have n1 : b ≠ r := fun z => by rw [z, er4] at e3; cases e3
              have n2 : b ≠ D2 := fun z => by rw [z, eD4] at e3; cases e3
              have n3 : b ≠ En := fun z => by rw [z, eE4] at e3; cases e3
              exact exc_some.mpr ⟨by simp [n1, n2, n3], ntH_some.mpr ⟨by rw [upd_ne n3]; exact e4, e2⟩⟩
          · rintro H3 ⟨s3, hT3, zs, eE, hzl, hzs⟩
            have eD3 := s3 _ _ (ntH_some.mpr ⟨eD, fun ps q => by cases q⟩)
            have gD2 : ntH H1 D2 = none := ntH_none hD2
            have s13 : Same (ntH H1) H3 := (ntH_idem s2).trans s3
            refine ⟨ys, eD3, small1000 (by omega), same_upd s13 gD2, tabs_upd hT3 eD3 (by intro _ q; cases q) (by intro _ q; cases q), ys ++ [.ref En], upd_same, ?_⟩
            rw [take_more hk]
            have q1 : Same (exc (ntH H3) [r, D2, En]) (exc (ntH (upd H3 D2 (.lst (ys ++ [.ref En])))) [r, D2]) := fun b o e => by
              obtain ⟨e1, e2⟩ := exc_some.mp e
              obtain ⟨e2, e3⟩ := ntH_some.mp e2
              have n2 : b ≠ D2 := fun z => e1 (by simp [z])
              exact exc_some.mpr ⟨fun z => e1 (by simp at z; rcases z with z | z <;> simp [z]), ntH_some.mpr ⟨by rw [upd_ne n2]; exact e2, e3⟩⟩
            have q2 : Same (exc (ntH H') [r, D2]) (exc (ntH (upd H3 D2 (.lst (ys ++ [.ref En])))) [r, D2]) := fun b o e => by
              obtain ⟨e1, e2⟩ := exc_some.mp e
              have e3 := s3 _ _ e2
              have n2 : b ≠ D2 := fun z => e1 (by simp [z])
              exact exc_some.mpr ⟨e1, ntH_some.mpr ⟨by rw [upd_ne n2]; exact e3, (ntH_some.mp e2).2⟩⟩
            exact all2_snoc ⟨En, zs, rfl, exc_some.mpr ⟨by simp [nEr, nED.symm], ntH_some.mpr ⟨by rw [upd_ne nED.symm]; exact eE, fun ps q => by cases q⟩⟩, hzl, fun m z hz => by
              obtain ⟨ds, h1, h2⟩ := hzs m z hz
              exact ⟨ds, h1, dp_same q1 h2⟩⟩ (all2_mono (fun x k h => keptAt_same q2 h) hys)
        · rintro H2 ⟨s2, hT2, zs, eD2, hzs⟩
          rw [List.take_of_length_le (by omega)] at hzs
          have s2f : Same (exc (ntH H1) [r]) (exc (ntH H2) [r]) := fun b o e => by
            obtain ⟨e1, e2⟩ := exc_some.mp e
            exact exc_some.mpr ⟨e1, ntH_some.mpr ⟨s2 _ _ e2, (ntH_some.mp e2).2⟩⟩
          have fPs : All2 (ItemAt K (exc (ntH H2) [r])) ps ks := all2_mono (fun x k h => itemAt_same s2f h) hps1
          have fFs : All2 (CopyAt K (exc (ntH H2) [r])) fs ks := all2_mono (fun x k h => copyAt_same s2f h) hfs1
          have fZs : All2 (KeptAt K (exc (ntH H2) [r])) zs ks := all2_mono (fun x k h => keptAt_same (fun b o e => by
            obtain ⟨e1, e2⟩ := exc_some.mp e
            exact exc_some.mpr ⟨fun z => e1 (by simp at z; simp [z]), e2⟩) h) hzs
          have nt1 : ∀ {b : Addr} {xs : List V}, H1 b = some (.lst xs) → H2 b = some (.lst xs) := fun h => s2 _ _ (ntH_some.mpr ⟨h, fun ps q => by cases q⟩)
          have fS : exc (ntH H2) [r] S = some (.lst ps) := exc_some.mpr ⟨by simp [nS], ntH_some.mpr ⟨nt1 eS1, fun ps q => by cases q⟩⟩
          have fD1 : exc (ntH H2) [r] D1 = some (.lst fs) := exc_some.mpr ⟨by simp [nD1], ntH_some.mpr ⟨nt1 eD1, fun ps q => by cases q⟩⟩
          have fD2 : exc (ntH H2) [r] D2 = some (.lst zs) := exc_some.mpr ⟨by simp [nD2], ntH_some.mpr ⟨eD2, fun ps q => by cases q⟩⟩
          have hR2 : RowAt K H2 r := (rowAt_nt hR1).but s2
          have hG : Same (exc (ntH H2) [r]) H2 := exc_sub.trans (ntH_sub H2)
          have gG : exc (ntH H2) [r] r = none := by
            cases e : exc (ntH H2) [r] r with
            | none => rfl
            | some o => exact absurd (by simp : r ∈ [r]) (exc_some.mp e).1
          have gN : ∀ b ps, exc (ntH H2) [r] b ≠ some (.tbl ps) := exc_nt
          revert fPs fFs fZs fS fD1 fD2 hG gG gN
          generalize exc (ntH H2) [r] = Gf
          intro fPs fFs fZs fS fD1 fD2 hG gG gN
          show gName 5 (V.ref D2) [some (.ref a), some (.ref r), some (.ref S), v3, some (.ref D1), v5, v6, v7, v8, v9, v10, v11] _ _
          refine ⟨_, rfl, r, 16, rfl, hR2, by decide, fun H3 z z0 z1 hR3 sb3 => ?_⟩
          have hT3 := tabs_row hT2 hR2 sb3
          refine ⟨_, _, rfl, rfl, 1 + z, rfl, by omega, by omega, ?_⟩
          refine for_range (lo := 0) (n := (1 + z).toNat) (fun i σ H' => RowAt K H' r ∧ Tabs T H' ∧ Same Gf H' ∧ ∃ v3 v6 v7 v8 v9 v10 v11 : Option V, σ = [some (.ref a), some (.ref r), some (.ref S), v3, some (.ref D1), some (.ref D2), v6, v7, v8, v9, v10, v11]) ⟨hR3, hT3, same_sb hG gG sb3, _, _, _, _, _, _, _, rfl⟩ ?_ ?_
          · rintro i σ H4 hi ⟨hR4, hT4, hG4, v3, v6, v7, v8, v9, v10, v11, rfl⟩
            refine ⟨_, rfl, r, 2, rfl, hR4, by decide, fun H5 zk zk0 zk1 hR5 sb5 => ?_⟩
            have hT5 := tabs_row hT4 hR4 sb5
            have hG5 := same_sb hG4 gG sb5
            refine ⟨_, rfl, r, 5, rfl, hR5, by decide, fun H6 zw zw0 zw1 hR6 sb6 => ?_⟩
            have hT6 := tabs_row hT5 hR5 sb6
            have hG6 := same_sb hG5 gG sb6
            obtain ⟨kn, rfl⟩ : ∃ kn : Nat, zk = (kn : Int) := ⟨zk.toNat, by omega⟩
            obtain ⟨wn, rfl⟩ : ∃ wn : Nat, zw = (wn : Int) := ⟨zw.toNat, by omega⟩
            have hk2 : kn < ks.length := by omega
            obtain ⟨k, hk⟩ : ∃ k, ks[kn]? = some k := ⟨_, List.getElem?_eq_getElem hk2⟩
            obtain ⟨x1, hx1, t, u, v, us, rfl, ht, hv, hu, hus, gd, ga, hl5⟩ := all2_at' fPs hk
            obtain ⟨x2, hx2, cu, cs, rfl, hcu, hcs⟩ := all2_at' fFs hk
            obtain ⟨x3, hx3, ku, kz, rfl, hku, hkz5, hkz⟩ := all2_at' fZs hk
            show gName 8 (V.int (wn : Int)) [some (.ref a), some (.ref r), some (.ref S), some (.int (kn : Int)), some (.ref D1), some (.ref D2), some (.int (0 + (i : Int))), v7, v8, v9, v10, v11] _ _
            refine ⟨_, rfl, _, rfl, _, rfl, S, ps, (kn : Int), .ref t, rfl, rfl, SqL.of (hG6 _ _ fS), atI_nat hx1, t, _, 0, _, rfl, rfl, SqT.of (hG6 _ _ ht), atI_nat (j := 0) rfl, _, rfl, _, rfl, S, ps, (kn : Int), .ref t, rfl, rfl, SqL.of (hG6 _ _ fS), atI_nat hx1, t, _, 1, _, rfl, rfl, SqT.of (hG6 _ _ ht), atI_nat (j := 1) rfl, ?_⟩
            refine ⟨(wn : Int), v, .ref u, k.1, k.2, rfl, by omega, by omega, dp_same hG6 hv, .lst (SqL.of (hG6 _ _ hu)) (dpa_same hG6 hus), gd, ga, hl5, hT6, fun H7 p xs ds s7 hT7 gp hp hda hans hmut => ?_⟩
            have hGn : Same Gf (ntH H6) := same_nt hG6 gN
            have hG7 := hGn.trans s7
            obtain ⟨z4, hz4⟩ : ∃ z4, kz[wn]? = some z4 := ⟨_, List.getElem?_eq_getElem (by omega)⟩
            obtain ⟨ds', hds', hdz⟩ := hkz wn z4 hz4
            obtain rfl := ans_unique hds' hans
            have hok := ans_ok hl5 hans
            have hxl : xs.length ≤ 1000000 := by
              rw [dpa_len hda]
              unfold okD at hok
              exact hok.1
            show gName 9 (V.ref p) [some (.ref a), some (.ref r), some (.ref S), some (.int (kn : Int)), some (.ref D1), some (.ref D2), some (.int (0 + (i : Int))), v7, some (.int (wn : Int)), v9, v10, v11] _ _
            refine ⟨_, rfl, _, rfl, _, rfl, D2, zs, (kn : Int), .ref ku, rfl, rfl, SqL.of (hG7 _ _ fD2), atI_nat hx3, _, rfl, ku, kz, (wn : Int), z4, rfl, rfl, SqL.of (hG7 _ _ hku), atI_nat hz4, ?_⟩
            refine ⟨.ref p, z4, .list ds', rfl, .lst (SqL.of hp) hda, dp_same hG7 hdz, hok, fun H8 s8 => ?_⟩
            have hG8 := hG7.trans s8
            refine ⟨_, rfl, iteF ?_⟩
            have dA : Dp K Gf (.ref u) (dAsks k.2) := .lst (SqL.of hu) hus
            have dC : Dp K Gf (.ref cu) (dAsks k.2) := .lst (SqL.of hcu) hcs
            refine ⟨_, rfl, _, rfl, S, ps, (kn : Int), .ref t, rfl, rfl, SqL.of (hG8 _ _ fS), atI_nat hx1, t, _, 1, _, rfl, rfl, SqT.of (hG8 _ _ ht), atI_nat (j := 1) rfl, _, rfl, _, rfl, D1, fs, (kn : Int), .ref cu, rfl, rfl, SqL.of (hG8 _ _ fD1), atI_nat hx2, ?_⟩
            refine ⟨dAsks k.2, dAsks k.2, dp_same hG8 dA, dp_same hG8 dC, shaped_asks _, shaped_asks _, _, rfl, ?_⟩
            rw [SeqAt.eqv_refl _ (SeqAt.canLay_of_shaped (shaped_asks _))]
            refine iteF ?_
            have hp8 := s8 _ _ hp
            have fR6 := rowAt_nt hR6
            refine ⟨_, rfl, p, rfl, ⟨_, SqL.of hp8⟩, ?_⟩
            refine for_list (K := K) (a := p) (xs := xs) (fun j σ H' => Same (ntH H6) H' ∧ Tabs T H' ∧ H' p = some (.lst xs) ∧ (∀ x ∈ xs, Mut K (ntH H6) H' p (1000 + j) x) ∧ ∃ v10, σ = [some (.ref a), some (.ref r), some (.ref S), some (.int (kn : Int)), some (.ref D1), some (.ref D2), some (.int (0 + (i : Int))), v7, some (.int (wn : Int)), some (.ref p), v10, v11])
              ⟨s7.trans s8, hT7.ext s8, hp8, fun x hx => mut_same s8 (hmut x hx), _, rfl⟩ (fun j σ H' _ ⟨_, _, e, _⟩ => SqL.of e) ?_ ?_
            · rintro j x σ H9 hj ⟨s9, hT9, hp9, hm9, v10, rfl⟩
              have hx := hm9 x (List.mem_of_getElem? hj)
              have hjl : j < xs.length := (List.getElem?_eq_some_iff.mp hj).1
              have hmore : ∀ x ∈ xs, Mut K (ntH H6) H9 p (1000 + (j + 1)) x := fun x hx => by
                rcases hm9 x hx with h | h | h | ⟨b, zs, e, h, h2, h3, h4⟩
                · exact .inl h
                · exact .inr (.inl h)
                · exact .inr (.inr (.inl h))
                · exact .inr (.inr (.inr ⟨b, zs, e, h, h2, by omega, h4⟩))
              rcases hx with ⟨n, rfl⟩ | ⟨n, rfl⟩ | ⟨t9, ys, rfl, h9⟩ | ⟨b, ys, rfl, h9, gb, hyl, nbp⟩
              · exact ⟨_, rfl, .int n, .ty "list", _, _, false, rfl, ClsV.ty _, (show TyX K H9 (.int n) (.type "int") from .base (.int _)), kit_ty (by decide +kernel), _, rfl, iteF ⟨s9, hT9, hp9, hmore, _, rfl⟩⟩
              · exact ⟨_, rfl, .str n, .ty "list", _, _, false, rfl, ClsV.ty _, (show TyX K H9 (.str n) (.type "str") from .base (.str _)), kit_ty (by decide +kernel), _, rfl, iteF ⟨s9, hT9, hp9, hmore, _, rfl⟩⟩
              · exact ⟨_, rfl, .ref t9, .ty "list", _, _, false, rfl, ClsV.ty _, sqt_ty h9, kit_ty (by decide +kernel), _, rfl, iteF ⟨s9, hT9, hp9, hmore, _, rfl⟩⟩
              · refine ⟨_, rfl, .ref b, .ty "list", _, _, true, rfl, ClsV.ty _, (show TyX K H9 (.ref b) (.type "list") from .base (.lst h9)), kit_ty (by decide +kernel), _, rfl, iteT ?_⟩
                refine ⟨_, rfl, .inl ⟨rfl, _, SqL.of h9⟩, b, ys, .int 7, rfl, rfl, h9, Nat.lt_of_le_of_lt (by omega : ys.length ≤ 2000000) (by decide), ?_⟩
                refine ⟨_, rfl, .inl ⟨rfl, _, SqL.of upd_same⟩, b, ys ++ [.int 7], rfl, rfl, upd_same, ?_⟩
                have hl : (ys ++ [V.int 7]).reverse.length ≤ 1000 + j + 1 := by rw [List.length_reverse, List.length_append]; show ys.length + 1 ≤ _; omega
                refine ⟨same_upd (same_upd s9 gb) gb, tabs_upd (tabs_upd hT9 h9 (by intro _ q; cases q) (by intro _ q; cases q)) upd_same (by intro _ q; cases q) (by intro _ q; cases q), by rw [upd_ne nbp.symm, upd_ne nbp.symm]; exact hp9, fun x hx => mut_upd h9 hl gb nbp (hm9 x hx), _, rfl⟩
            · rintro σ H9 ⟨s9, hT9, hp9, hm9, v10, rfl⟩
              refine ⟨_, rfl, .inl ⟨rfl, _, SqL.of hp9⟩, p, xs, .int 7, rfl, rfl, hp9, Nat.lt_of_le_of_lt hxl (by decide), ?_⟩
              have sF := same_upd (o := HO.lst (xs ++ [V.int 7])) s9 gp
              exact ⟨fR6.but sF, tabs_upd hT9 hp9 (by intro _ q; cases q) (by intro _ q; cases q), hGn.trans sF, _, _, _, _, _, _, _, rfl⟩
          · rintro σ H4 ⟨hR4, hT4, hG4, v3, v6, v7, v8, v9, v10, v11, rfl⟩
            exact q _
end
end Ag

namespace Ag
open PySem PySem.Spec PyProof.Rows L2 LamX NdefX
/-! ### from the head's facts -/
section
variable {P : Program} {w : World} {K : PySem.W.Frag} {mg : Str → Option Value} {base : Heap}
theorem fun_of {x q : Str} {st : Stmt} {f : Addr} {fd : FuncData} (h : FunD K x q (defArgs st) (defBody st) (defScope st) [] [] f fd) : Fun K x q st f fd := by
  obtain ⟨⟨oc, od, dV, kV, doc, pm, an, cdv, ct, osl, rfl, lk, hcd, hD, hK⟩, kp⟩ := h
  rcases hD with ⟨_, rfl⟩ | ⟨e, _⟩
  · exact ⟨⟨oc, od, kV, doc, pm, an, cdv, ct, osl, rfl, lk, hcd⟩, kp⟩
  · exact absurd rfl e
theorem funC_of {x q : Str} {st : Stmt} {p : Str × Option Str} {fd : FuncData} (h : FunD K x q (defArgs st) (defBody st) (defScope st) [] [] (He.fAd K p) fd) : FunC K x q st (He.fAd K p) fd (He.cT K p).1 := by
  obtain ⟨⟨oc, od, dV, kV, doc, pm, an, cdv, ct, osl, rfl, lk, hcd, hD, hK⟩, kp⟩ := h
  rcases hD with ⟨_, rfl⟩ | ⟨e, _⟩
  · obtain ⟨c, rfl⟩ := He.codeIn_ref hcd
    have e : (He.cT K p).1 = c := He.codeOf_eq lk rfl
    rw [e]
    exact ⟨⟨oc, od, kV, doc, pm, an, ct, osl, rfl, lk, hcd⟩, kp⟩
  · exact absurd rfl e
/-- a promise that asks for a list frozen serves where the list is tracked as one that may change -/
theorem fnOk_frozen {k : Nat} {f : Addr} {fd : FuncData} {ps : List Str} {sp sp' : Sp} (F : FnOk P w K mg base CX0 k f fd ps sp) (hlen : ∀ vs H Q E, sp' vs H Q E → vs.length = ps.length)
    (hs : ∀ vs H Q E, sp' vs H Q E → sp vs H Q E ∨ ∃ a ys, H a = some (.lst ys) ∧ ∀ o, sp vs (upd H a (.frz o (.lst ys))) Q E) : FnOk P w K mg base CX0 k f fd ps sp' := by
  refine ⟨hlen, fun A outer s H args us vs Q E hr e0 hb r h => ?_⟩
  rcases hs vs H Q E h with h | ⟨a, ys, ha, h⟩
  · exact F.run A outer s H args us vs Q E hr e0 hb r h
  · obtain ⟨hz, its, n, rv, ho⟩ := (show ObjOk P w H s.heap a (.lst ys) from e0.hok a _ ha)
    have ne : ∀ b, H b = none → b ≠ a := fun b e z => by rw [z, ha] at e; cases e
    have at_ : ∀ b, b ≠ a → upd H a (.frz { cls := .type "list", data := .seq its.toArray n } (.lst ys)) b = H b := fun b n => upd_ne n
    have own : ∀ b y, H b = some (.own y) → upd H a (.frz { cls := .type "list", data := .seq its.toArray n } (.lst ys)) b = some (.own y) := fun b y e => by
      rw [at_ b fun z => by rw [z, ha] at e; cases e]
      exact e
    have tup : ∀ b xs, H b = some (.tup xs) → upd H a (.frz { cls := .type "list", data := .seq its.toArray n } (.lst ys)) b = some (.tup xs) := fun b y e => by
      rw [at_ b fun z => by rw [z, ha] at e; cases e]
      exact e
    have hok : HOk P w (upd H a (.frz { cls := .type "list", data := .seq its.toArray n } (.lst ys))) s.heap := fun b o e => by
      by_cases z : b = a
      · subst z
        rw [upd_same] at e
        cases e
        exact ⟨ho, hz, its, n, rv, ho⟩
      · rw [at_ b z] at e
        exact (e0.hok b o e).stay (fun _ _ _ q => q) (fun c q => own c b q) tup
    have e1 : Env0 P w K mg base A outer s (upd H a (.frz { cls := .type "list", data := .seq its.toArray n } (.lst ys))) :=
      ⟨e0.frames, e0.mod, fun b o q => ⟨(e0.bs b o q).1, by rw [at_ b (ne b (e0.bs b o q).2)]; exact (e0.bs b o q).2⟩, e0.bsz, e0.funs, fun b hb => by rw [at_ b (ne b (e0.frf b hb))]; exact e0.frf b hb, hok, e0.bare⟩
    refine codeAny_mono (F.run A outer s _ args us vs Q E hr e1 hb r (h _)) fun r s' hq => ?_
    cases r with
    | error e => exact hq
    | ok fl =>
      cases fl with
      | next => exact hq
      | brk => exact hq
      | cont => exact hq
      | ret u =>
        obtain ⟨v, H', os, bare, un, hok', rv', q⟩ := hq
        refine ⟨v, H', os, bare, ⟨fun b o e n nf nx => un.keep b o e (by rw [at_ b (ne b n)]; exact n) nf nx, fun b o e n nf nx => un.slot b o e (by rw [at_ b (ne b n)]; exact n) nf nx, fun b o e n nx => un.free b o e (by rw [at_ b (ne b n)]; exact n) nx, un.there, fun b xs e => un.tups b xs (tup b xs e), fun b o u e => un.frzs b o u ?_, fun b ps e => un.tbls b ps ?_⟩, hok', rv', q⟩
        · rw [at_ b fun z => by rw [z, ha] at e; cases e]
          exact e
        · rw [at_ b fun z => by rw [z, ha] at e; cases e]
          exact e
end
end Ag

set_option maxHeartbeats 0
namespace Ag
open PySem PySem.Spec PyProof.Rows L2 LamX NdefX
def d_need_disk : He.DefD := ⟨("need_disk", none), "need_disk", "need_disk", defArgs s_need_disk, defBody s_need_disk, defScope s_need_disk, [], []⟩
def d_need_asks : He.DefD := ⟨("need_asks", none), "need_asks", "need_asks", defArgs s_need_asks, defBody s_need_asks, defScope s_need_asks, [], []⟩
def d_served : He.DefD := ⟨("served", none), "served", "served", defArgs s_served, defBody s_served, defScope s_served, [], []⟩
def d_need_few : He.DefD := ⟨("need_few", none), "need_few", "need_few", defArgs s_need_few, defBody s_need_few, defScope s_need_few, [], []⟩
def d_costs_of : He.DefD := ⟨("costs_of", none), "costs_of", "costs_of", defArgs s_costs_of, defBody s_costs_of, defScope s_costs_of, [], []⟩
def d_need_rule : He.DefD := ⟨("need_rule", none), "need_rule", "need_rule", defArgs s_need_rule, defBody s_need_rule, defScope s_need_rule, [], []⟩
def d_rows_by : He.DefD := ⟨("rows_by", none), "rows_by", "rows_by", defArgs s_rows_by, defBody s_rows_by, defScope s_rows_by, [], []⟩
def d_by_rule : He.DefD := ⟨("by_rule", none), "by_rule", "by_rule", defArgs s_by_rule, defBody s_by_rule, defScope s_by_rule, [], []⟩
def d_held : He.DefD := ⟨("held", none), "held", "held", defArgs s_held, defBody s_held, defScope s_held, [], []⟩
def d_least_sum : He.DefD := ⟨("least_sum", none), "least_sum", "least_sum", defArgs s_least_sum, defBody s_least_sum, defScope s_least_sum, [], []⟩
def d_orders_from : He.DefD := ⟨("orders_from", none), "orders_from", "orders_from", defArgs s_orders_from, defBody s_orders_from, defScope s_orders_from, [], []⟩
def d_all_costs : He.DefD := ⟨("all_costs", none), "all_costs", "all_costs", defArgs s_all_costs, defBody s_all_costs, defScope s_all_costs, [], []⟩
def d_front : He.DefD := ⟨("front", none), "front", "front", defArgs s_front, defBody s_front, defScope s_front, [], []⟩
def d_served_in : He.DefD := ⟨("served_in", none), "served_in", "served_in", defArgs s_served_in, defBody s_served_in, defScope s_served_in, [], []⟩
def d_need_order : He.DefD := ⟨("need_order", none), "need_order", "need_order", defArgs s_need_order, defBody s_need_order, defScope s_need_order, [], []⟩
def d_by_order : He.DefD := ⟨("by_order", none), "by_order", "by_order", defArgs s_by_order, defBody s_by_order, defScope s_by_order, [], []⟩
def d_written : He.DefD := ⟨("written", none), "written", "written", defArgs s_written, defBody s_written, defScope s_written, [], []⟩
def d_number_of : He.DefD := ⟨("number_of", none), "number_of", "number_of", defArgs s_number_of, defBody s_number_of, defScope s_number_of, [], []⟩
def d_read : He.DefD := ⟨("read", none), "read", "read", defArgs s_read, defBody s_read, defScope s_read, [], []⟩
def d__law_taken : He.DefD := ⟨("_law_taken", none), "_law_taken", "_law_taken", defArgs s_l_taken, defBody s_l_taken, defScope s_l_taken, [], []⟩
def d__law_disk : He.DefD := ⟨("_law_disk", none), "_law_disk", "_law_disk", defArgs s_l_disk, defBody s_l_disk, defScope s_l_disk, [], []⟩
def d__law_asks : He.DefD := ⟨("_law_asks", none), "_law_asks", "_law_asks", defArgs s_l_asks, defBody s_l_asks, defScope s_l_asks, [], []⟩
def d__law_alike : He.DefD := ⟨("_law_alike", none), "_law_alike", "_law_alike", defArgs s_l_alike, defBody s_l_alike, defScope s_l_alike, [], []⟩
def d__law_answer : He.DefD := ⟨("_law_answer", none), "_law_answer", "_law_answer", defArgs s_l_answer, defBody s_l_answer, defScope s_l_answer, [], []⟩
def d__law_copied : He.DefD := ⟨("_law_copied", none), "_law_copied", "_law_copied", defArgs s_l_copied, defBody s_l_copied, defScope s_l_copied, [], []⟩
def d_law : He.DefD := ⟨("law", none), "law", "law", defArgs s_law, defBody s_law, defScope s_law, [], []⟩
def d_A___init__ : He.DefD := ⟨("Arm", some "__init__"), "__init__", "Arm.__init__", defArgs s_init, defBody s_init, defScope s_init, [], []⟩
def d_A_waiting : He.DefD := ⟨("Arm", some "waiting"), "waiting", "Arm.waiting", defArgs s_waiting, defBody s_waiting, defScope s_waiting, [], []⟩
def d_A_far : He.DefD := ⟨("Arm", some "far"), "far", "Arm.far", defArgs s_far, defBody s_far, defScope s_far, [], []⟩
def d_A_first_of : He.DefD := ⟨("Arm", some "first_of"), "first_of", "Arm.first_of", defArgs s_first_of, defBody s_first_of, defScope s_first_of, [], []⟩
def d_A_swept : He.DefD := ⟨("Arm", some "swept"), "swept", "Arm.swept", defArgs s_swept, defBody s_swept, defScope s_swept, [], []⟩
def d_A_looped : He.DefD := ⟨("Arm", some "looped"), "looped", "Arm.looped", defArgs s_looped, defBody s_looped, defScope s_looped, [], []⟩
def d_A_chosen : He.DefD := ⟨("Arm", some "chosen"), "chosen", "Arm.chosen", defArgs s_chosen, defBody s_chosen, defScope s_chosen, [], []⟩
def d_A_serve : He.DefD := ⟨("Arm", some "serve"), "serve", "Arm.serve", defArgs s_serve, defBody s_serve, defScope s_serve, [], []⟩
def fnL : List He.DefD := [d_need_disk, d_need_asks, d_served, d_need_few, d_costs_of, d_need_rule, d_rows_by, d_by_rule, d_held, d_least_sum, d_orders_from, d_all_costs, d_front, d_served_in, d_need_order, d_by_order, d_written, d_number_of, d_read, d__law_taken, d__law_disk, d__law_asks, d__law_alike, d__law_answer, d__law_copied, d_law, d_A___init__, d_A_waiting, d_A_far, d_A_first_of, d_A_swept, d_A_looped, d_A_chosen, d_A_serve]
def faL : List He.Fa := [.glo "need_disk", .glo "need_asks", .glo "served", .glo "need_few", .glo "costs_of", .glo "need_rule", .glo "rows_by", .glo "by_rule", .glo "held", .glo "least_sum", .glo "orders_from", .glo "all_costs", .glo "front", .glo "served_in", .glo "need_order", .glo "by_order", .glo "written", .glo "number_of", .glo "read", .glo "_law_taken", .glo "_law_disk", .glo "_law_asks", .glo "_law_alike", .glo "_law_answer", .glo "_law_copied", .glo "law", .glo "Arm", .glo "RULES", .cls "Arm", .mkr "Arm", .free "abs", .free "bool", .free "int", .free "isinstance", .free "len", .free "list", .free "max", .free "min", .free "range", .free "sorted", .free "str", .free "sum", .free "tuple", .int "MOST_ASKS" 40, .int "MOST_COME" 999, .int "MOST_FIGURES" 3, .int "MOST_OF_ALL" 6, .int "MOST_PACE" 4, .int "MOST_SECTORS" 16, .int "MOST_TRACKS" 64, .str "FIGURES" "0123456789", .meth "Arm" "waiting", .meth "Arm" "far", .meth "Arm" "first_of", .meth "Arm" "swept", .meth "Arm" "looped", .meth "Arm" "chosen", .meth "Arm" "serve", .noat "Arm" "disk", .noat "Arm" "asks", .noat "Arm" "now", .noat "Arm" "here", .noat "Arm" "up", .noat "Arm" "left"]
def tfL : List He.Defn := [("Arm", some "first_of"), ("Arm", some "swept"), ("Arm", some "looped"), ("Arm", some "chosen")]
abbrev RR : PySem.W.OpenRow := PySem.W.OpenLaw.row PySem.Challenge.rw_armorder_k11_asked_again
def rulesD : List He.Dv := [.str "first", .str "near", .str "soon", .str "sweep", .str "loop"]
def exL : PySem.W.Frag → Bool := fun K => He.tupB K "RULES" rulesD && decide ((tfL.map fun p => (He.cT K p).2).Nodup)
abbrev hk : PySem.W.Hook := He.hookX 6 faL fnL [] tfL exL
def ob (s : PySem.W.SharedT) : He.AlX := He.obsX 6 faL fnL [] tfL exL (HandSHeadRun.getT s)
theorem ob_eq (s : PySem.W.SharedT) : ob s = hk.obs s.abs := He.obsX_eq (HandSHeadRun.getT_eq s)
def looseL : List PySem.Str := (["__name__", "ArmError", "BadDisk", "BadAsk", "BadRule", "BadOrder", "TooMany", "BadText", "MOST_TRACKS", "MOST_SECTORS", "MOST_PACE", "MOST_ASKS", "MOST_COME", "need_disk", "need_asks", "served", "served_in", "costs_of", "need_order", "by_order", "RULES", "need_rule", "Arm", "rows_by", "by_rule", "MOST_OF_ALL", "need_few", "orders_from", "all_costs", "front"] : List PySem.Str) ++ (["least_sum", "held", "FIGURES", "MOST_FIGURES", "written", "number_of", "read", "_law_taken", "_law_alike", "_law_disk", "_law_asks", "_law_answer", "_law_copied"] : List PySem.Str)
theorem run (w : World) : HandSHeadRun.RunEq RR (PySem.W.view RR.prog [49]) hk ob 3000 looseL w := by
  intro os
  kernel_rfl
theorem one_of {P : Addr} {q : Str} : ∀ {T : List (Addr × Str)}, (T.map (·.1)).Nodup → (P, q) ∈ T → ∀ p ∈ T, p.1 = P → p.2 = q
  | [], _, h => by cases h
  | t :: T, nd, h => fun p hp e => by
    rw [List.map_cons, List.nodup_cons] at nd
    rcases List.mem_cons.mp h with h | h
    · rcases List.mem_cons.mp hp with z | hp
      · rw [z, ← h]
      · exact absurd (List.mem_map.mpr ⟨p, hp, e.trans (by rw [← h])⟩) nd.1
    · rcases List.mem_cons.mp hp with z | hp
      · exact absurd (List.mem_map.mpr ⟨(P, q), h, by rw [← z]; exact e.symm⟩) nd.1
      · exact one_of nd.2 h p hp e
def tabL (K : PySem.W.Frag) : List (Addr × Str) := [((He.cT K ("Arm", some "first_of")).2, lq "Arm.first_of"), ((He.cT K ("Arm", some "swept")).2, lq "Arm.swept"), ((He.cT K ("Arm", some "looped")).2, lq "Arm.looped"), ((He.cT K ("Arm", some "chosen")).2, lq "Arm.chosen")]
def sp_lawT (K : PySem.W.Frag) (T : List (Addr × Str)) : Sp := fun vs H Q _ => ∃ (a : Addr) (ns : List Int), vs = [.ref a] ∧ SqL K H a (ns.map V.int) ∧ Tabs T H ∧ ∀ H', Q (.bl true) H'
theorem facts {w : World} {K : PySem.W.Frag} {h : Heap} {mg : Str → Option Value} {f : Addr} (X : K.In h) (G : h.Ns mainGlobals mg) (hfa : mg ("law" : Str) = some (.ref f)) (c : He.SaysX faL fnL [] tfL exL w h K) : LawAtS PySem.Challenge.rw_armorder_k11_asked_again w K CX0 12 63 "_law_script" mg f h := by
  have cD : He.SaysD faL fnL K := congrArg Prod.fst c.t
  have ex2 : (He.tupB K "RULES" rulesD && decide ((tfL.map fun p => (He.cT K p).2).Nodup)) = true := c.more
  obtain ⟨hR0, hN0⟩ := He.ba ex2
  have hN := of_decide_eq_true hN0
  have hR : ∀ H, SqT K H (He.ga K "RULES") rulesV := fun H => He.tupB_ok hR0 H
  have e := hfa.symm.trans (He.glo_ok X G (cD.fact 25 (f := .glo "law") rfl))
  cases e
  obtain ⟨fd_need_disk, D_need_disk⟩ := cD.def_ 0 (d := d_need_disk) rfl
  have F_need_disk := fun_of (st := s_need_disk) D_need_disk
  have b_need_disk := F_need_disk.binds (ps := ["disk"]) fun _ _ _ _ _ _ us hl => match us, hl with | [_], _ => rfl
  have C_need_disk : Cal K mg "need_disk" (He.fAd K ("need_disk", none)) _ ["disk"] := ⟨He.glo_ok X G (cD.fact 0 (f := .glo "need_disk") rfl), F_need_disk.kp, b_need_disk⟩
  obtain ⟨fd_need_asks, D_need_asks⟩ := cD.def_ 1 (d := d_need_asks) rfl
  have F_need_asks := fun_of (st := s_need_asks) D_need_asks
  have b_need_asks := F_need_asks.binds (ps := ["disk", "asks"]) fun _ _ _ _ _ _ us hl => match us, hl with | [_, _], _ => rfl
  have C_need_asks : Cal K mg "need_asks" (He.fAd K ("need_asks", none)) _ ["disk", "asks"] := ⟨He.glo_ok X G (cD.fact 1 (f := .glo "need_asks") rfl), F_need_asks.kp, b_need_asks⟩
  obtain ⟨fd_served, D_served⟩ := cD.def_ 2 (d := d_served) rfl
  have F_served := fun_of (st := s_served) D_served
  have b_served := F_served.binds (ps := ["disk", "now", "here", "ask"]) fun _ _ _ _ _ _ us hl => match us, hl with | [_, _, _, _], _ => rfl
  have C_served : Cal K mg "served" (He.fAd K ("served", none)) _ ["disk", "now", "here", "ask"] := ⟨He.glo_ok X G (cD.fact 2 (f := .glo "served") rfl), F_served.kp, b_served⟩
  obtain ⟨fd_need_few, D_need_few⟩ := cD.def_ 3 (d := d_need_few) rfl
  have F_need_few := fun_of (st := s_need_few) D_need_few
  have b_need_few := F_need_few.binds (ps := ["asks"]) fun _ _ _ _ _ _ us hl => match us, hl with | [_], _ => rfl
  have C_need_few : Cal K mg "need_few" (He.fAd K ("need_few", none)) _ ["asks"] := ⟨He.glo_ok X G (cD.fact 3 (f := .glo "need_few") rfl), F_need_few.kp, b_need_few⟩
  obtain ⟨fd_costs_of, D_costs_of⟩ := cD.def_ 4 (d := d_costs_of) rfl
  have F_costs_of := fun_of (st := s_costs_of) D_costs_of
  have b_costs_of := F_costs_of.binds (ps := ["disk", "asks", "rows"]) fun _ _ _ _ _ _ us hl => match us, hl with | [_, _, _], _ => rfl
  have C_costs_of : Cal K mg "costs_of" (He.fAd K ("costs_of", none)) _ ["disk", "asks", "rows"] := ⟨He.glo_ok X G (cD.fact 4 (f := .glo "costs_of") rfl), F_costs_of.kp, b_costs_of⟩
  obtain ⟨fd_need_rule, D_need_rule⟩ := cD.def_ 5 (d := d_need_rule) rfl
  have F_need_rule := fun_of (st := s_need_rule) D_need_rule
  have b_need_rule := F_need_rule.binds (ps := ["rule"]) fun _ _ _ _ _ _ us hl => match us, hl with | [_], _ => rfl
  have C_need_rule : Cal K mg "need_rule" (He.fAd K ("need_rule", none)) _ ["rule"] := ⟨He.glo_ok X G (cD.fact 5 (f := .glo "need_rule") rfl), F_need_rule.kp, b_need_rule⟩
  obtain ⟨fd_rows_by, D_rows_by⟩ := cD.def_ 6 (d := d_rows_by) rfl
  have F_rows_by := fun_of (st := s_rows_by) D_rows_by
  have b_rows_by := F_rows_by.binds (ps := ["disk", "asks", "rule"]) fun _ _ _ _ _ _ us hl => match us, hl with | [_, _, _], _ => rfl
  have C_rows_by : Cal K mg "rows_by" (He.fAd K ("rows_by", none)) _ ["disk", "asks", "rule"] := ⟨He.glo_ok X G (cD.fact 6 (f := .glo "rows_by") rfl), F_rows_by.kp, b_rows_by⟩
  obtain ⟨fd_by_rule, D_by_rule⟩ := cD.def_ 7 (d := d_by_rule) rfl
  have F_by_rule := fun_of (st := s_by_rule) D_by_rule
  have b_by_rule := F_by_rule.binds (ps := ["disk", "asks", "rule"]) fun _ _ _ _ _ _ us hl => match us, hl with | [_, _, _], _ => rfl
  have C_by_rule : Cal K mg "by_rule" (He.fAd K ("by_rule", none)) _ ["disk", "asks", "rule"] := ⟨He.glo_ok X G (cD.fact 7 (f := .glo "by_rule") rfl), F_by_rule.kp, b_by_rule⟩
  obtain ⟨fd_held, D_held⟩ := cD.def_ 8 (d := d_held) rfl
  have F_held := fun_of (st := s_held) D_held
  have b_held := F_held.binds (ps := ["disk", "asks"]) fun _ _ _ _ _ _ us hl => match us, hl with | [_, _], _ => rfl
  have C_held : Cal K mg "held" (He.fAd K ("held", none)) _ ["disk", "asks"] := ⟨He.glo_ok X G (cD.fact 8 (f := .glo "held") rfl), F_held.kp, b_held⟩
  obtain ⟨fd_least_sum, D_least_sum⟩ := cD.def_ 9 (d := d_least_sum) rfl
  have F_least_sum := fun_of (st := s_least_sum) D_least_sum
  have b_least_sum := F_least_sum.binds (ps := ["disk", "asks"]) fun _ _ _ _ _ _ us hl => match us, hl with | [_, _], _ => rfl
  have C_least_sum : Cal K mg "least_sum" (He.fAd K ("least_sum", none)) _ ["disk", "asks"] := ⟨He.glo_ok X G (cD.fact 9 (f := .glo "least_sum") rfl), F_least_sum.kp, b_least_sum⟩
  obtain ⟨fd_orders_from, D_orders_from⟩ := cD.def_ 10 (d := d_orders_from) rfl
  have F_orders_from := fun_of (st := s_orders_from) D_orders_from
  have b_orders_from := F_orders_from.binds (ps := ["disk", "asks", "order", "now", "here", "cost", "best"]) fun _ _ _ _ _ _ us hl => match us, hl with | [_, _, _, _, _, _, _], _ => rfl
  have C_orders_from : Cal K mg "orders_from" (He.fAd K ("orders_from", none)) _ ["disk", "asks", "order", "now", "here", "cost", "best"] := ⟨He.glo_ok X G (cD.fact 10 (f := .glo "orders_from") rfl), F_orders_from.kp, b_orders_from⟩
  obtain ⟨fd_all_costs, D_all_costs⟩ := cD.def_ 11 (d := d_all_costs) rfl
  have F_all_costs := fun_of (st := s_all_costs) D_all_costs
  have b_all_costs := F_all_costs.binds (ps := ["disk", "asks"]) fun _ _ _ _ _ _ us hl => match us, hl with | [_, _], _ => rfl
  have C_all_costs : Cal K mg "all_costs" (He.fAd K ("all_costs", none)) _ ["disk", "asks"] := ⟨He.glo_ok X G (cD.fact 11 (f := .glo "all_costs") rfl), F_all_costs.kp, b_all_costs⟩
  obtain ⟨fd_front, D_front⟩ := cD.def_ 12 (d := d_front) rfl
  have F_front := fun_of (st := s_front) D_front
  have b_front := F_front.binds (ps := ["disk", "asks"]) fun _ _ _ _ _ _ us hl => match us, hl with | [_, _], _ => rfl
  have C_front : Cal K mg "front" (He.fAd K ("front", none)) _ ["disk", "asks"] := ⟨He.glo_ok X G (cD.fact 12 (f := .glo "front") rfl), F_front.kp, b_front⟩
  obtain ⟨fd_served_in, D_served_in⟩ := cD.def_ 13 (d := d_served_in) rfl
  have F_served_in := fun_of (st := s_served_in) D_served_in
  have b_served_in := F_served_in.binds (ps := ["disk", "asks", "order"]) fun _ _ _ _ _ _ us hl => match us, hl with | [_, _, _], _ => rfl
  have C_served_in : Cal K mg "served_in" (He.fAd K ("served_in", none)) _ ["disk", "asks", "order"] := ⟨He.glo_ok X G (cD.fact 13 (f := .glo "served_in") rfl), F_served_in.kp, b_served_in⟩
  obtain ⟨fd_need_order, D_need_order⟩ := cD.def_ 14 (d := d_need_order) rfl
  have F_need_order := fun_of (st := s_need_order) D_need_order
  have b_need_order := F_need_order.binds (ps := ["asks", "order"]) fun _ _ _ _ _ _ us hl => match us, hl with | [_, _], _ => rfl
  have C_need_order : Cal K mg "need_order" (He.fAd K ("need_order", none)) _ ["asks", "order"] := ⟨He.glo_ok X G (cD.fact 14 (f := .glo "need_order") rfl), F_need_order.kp, b_need_order⟩
  obtain ⟨fd_by_order, D_by_order⟩ := cD.def_ 15 (d := d_by_order) rfl
  have F_by_order := fun_of (st := s_by_order) D_by_order
  have b_by_order := F_by_order.binds (ps := ["disk", "asks", "order"]) fun _ _ _ _ _ _ us hl => match us, hl with | [_, _, _], _ => rfl
  have C_by_order : Cal K mg "by_order" (He.fAd K ("by_order", none)) _ ["disk", "asks", "order"] := ⟨He.glo_ok X G (cD.fact 15 (f := .glo "by_order") rfl), F_by_order.kp, b_by_order⟩
  obtain ⟨fd_written, D_written⟩ := cD.def_ 16 (d := d_written) rfl
  have F_written := fun_of (st := s_written) D_written
  have b_written := F_written.binds (ps := ["disk", "asks"]) fun _ _ _ _ _ _ us hl => match us, hl with | [_, _], _ => rfl
  have C_written : Cal K mg "written" (He.fAd K ("written", none)) _ ["disk", "asks"] := ⟨He.glo_ok X G (cD.fact 16 (f := .glo "written") rfl), F_written.kp, b_written⟩
  obtain ⟨fd_number_of, D_number_of⟩ := cD.def_ 17 (d := d_number_of) rfl
  have F_number_of := fun_of (st := s_number_of) D_number_of
  have b_number_of := F_number_of.binds (ps := ["word", "row"]) fun _ _ _ _ _ _ us hl => match us, hl with | [_, _], _ => rfl
  have C_number_of : Cal K mg "number_of" (He.fAd K ("number_of", none)) _ ["word", "row"] := ⟨He.glo_ok X G (cD.fact 17 (f := .glo "number_of") rfl), F_number_of.kp, b_number_of⟩
  obtain ⟨fd_read, D_read⟩ := cD.def_ 18 (d := d_read) rfl
  have F_read := fun_of (st := s_read) D_read
  have b_read := F_read.binds (ps := ["disk", "text"]) fun _ _ _ _ _ _ us hl => match us, hl with | [_, _], _ => rfl
  have C_read : Cal K mg "read" (He.fAd K ("read", none)) _ ["disk", "text"] := ⟨He.glo_ok X G (cD.fact 18 (f := .glo "read") rfl), F_read.kp, b_read⟩
  obtain ⟨fd__law_taken, D__law_taken⟩ := cD.def_ 19 (d := d__law_taken) rfl
  have F__law_taken := fun_of (st := s_l_taken) D__law_taken
  have b__law_taken := F__law_taken.binds (ps := ["_law_row", "_law_many"]) fun _ _ _ _ _ _ us hl => match us, hl with | [_, _], _ => rfl
  have C__law_taken : Cal K mg "_law_taken" (He.fAd K ("_law_taken", none)) _ ["_law_row", "_law_many"] := ⟨He.glo_ok X G (cD.fact 19 (f := .glo "_law_taken") rfl), F__law_taken.kp, b__law_taken⟩
  obtain ⟨fd__law_disk, D__law_disk⟩ := cD.def_ 20 (d := d__law_disk) rfl
  have F__law_disk := fun_of (st := s_l_disk) D__law_disk
  have b__law_disk := F__law_disk.binds (ps := ["_law_row"]) fun _ _ _ _ _ _ us hl => match us, hl with | [_], _ => rfl
  have C__law_disk : Cal K mg "_law_disk" (He.fAd K ("_law_disk", none)) _ ["_law_row"] := ⟨He.glo_ok X G (cD.fact 20 (f := .glo "_law_disk") rfl), F__law_disk.kp, b__law_disk⟩
  obtain ⟨fd__law_asks, D__law_asks⟩ := cD.def_ 21 (d := d__law_asks) rfl
  have F__law_asks := fun_of (st := s_l_asks) D__law_asks
  have b__law_asks := F__law_asks.binds (ps := ["_law_row", "_law_disk_here", "_law_most"]) fun _ _ _ _ _ _ us hl => match us, hl with | [_, _, _], _ => rfl
  have C__law_asks : Cal K mg "_law_asks" (He.fAd K ("_law_asks", none)) _ ["_law_row", "_law_disk_here", "_law_most"] := ⟨He.glo_ok X G (cD.fact 21 (f := .glo "_law_asks") rfl), F__law_asks.kp, b__law_asks⟩
  obtain ⟨fd__law_alike, D__law_alike⟩ := cD.def_ 22 (d := d__law_alike) rfl
  have F__law_alike := fun_of (st := s_l_alike) D__law_alike
  have b__law_alike := F__law_alike.binds (ps := ["_law_found", "_law_due"]) fun _ _ _ _ _ _ us hl => match us, hl with | [_, _], _ => rfl
  have C__law_alike : Cal K mg "_law_alike" (He.fAd K ("_law_alike", none)) _ ["_law_found", "_law_due"] := ⟨He.glo_ok X G (cD.fact 22 (f := .glo "_law_alike") rfl), F__law_alike.kp, b__law_alike⟩
  obtain ⟨fd__law_answer, D__law_answer⟩ := cD.def_ 23 (d := d__law_answer) rfl
  have F__law_answer := fun_of (st := s_l_answer) D__law_answer
  have b__law_answer := F__law_answer.binds (ps := ["_law_way", "_law_disk_here", "_law_asks_here"]) fun _ _ _ _ _ _ us hl => match us, hl with | [_, _, _], _ => rfl
  have C__law_answer : Cal K mg "_law_answer" (He.fAd K ("_law_answer", none)) _ ["_law_way", "_law_disk_here", "_law_asks_here"] := ⟨He.glo_ok X G (cD.fact 23 (f := .glo "_law_answer") rfl), F__law_answer.kp, b__law_answer⟩
  obtain ⟨fd__law_copied, D__law_copied⟩ := cD.def_ 24 (d := d__law_copied) rfl
  have F__law_copied := fun_of (st := s_l_copied) D__law_copied
  have b__law_copied := F__law_copied.binds (ps := ["_law_told"]) fun _ _ _ _ _ _ us hl => match us, hl with | [_], _ => rfl
  have C__law_copied : Cal K mg "_law_copied" (He.fAd K ("_law_copied", none)) _ ["_law_told"] := ⟨He.glo_ok X G (cD.fact 24 (f := .glo "_law_copied") rfl), F__law_copied.kp, b__law_copied⟩
  obtain ⟨fd_law, D_law⟩ := cD.def_ 25 (d := d_law) rfl
  have F_law := fun_of (st := s_law) D_law
  obtain ⟨fd_A___init__, D_A___init__⟩ := cD.def_ 26 (d := d_A___init__) rfl
  have F_A___init__ := fun_of (st := s_init) D_A___init__
  have b_A___init__ := F_A___init__.binds (ps := ["self", "disk", "asks"]) fun _ _ _ _ _ _ us hl => match us, hl with | [_, _, _], _ => rfl
  obtain ⟨fd_A_waiting, D_A_waiting⟩ := cD.def_ 27 (d := d_A_waiting) rfl
  have F_A_waiting := fun_of (st := s_waiting) D_A_waiting
  have b_A_waiting := F_A_waiting.binds (ps := ["self"]) fun _ _ _ _ _ _ us hl => match us, hl with | [_], _ => rfl
  obtain ⟨fd_A_far, D_A_far⟩ := cD.def_ 28 (d := d_A_far) rfl
  have F_A_far := fun_of (st := s_far) D_A_far
  have b_A_far := F_A_far.binds (ps := ["self", "number"]) fun _ _ _ _ _ _ us hl => match us, hl with | [_, _], _ => rfl
  obtain ⟨fd_A_first_of, D_A_first_of⟩ := cD.def_ 29 (d := d_A_first_of) rfl
  have F_A_first_of := funC_of (st := s_first_of) D_A_first_of
  have b_A_first_of := F_A_first_of.binds (ps := ["self", "some", "key"]) fun _ _ _ _ _ _ us hl => match us, hl with | [_, _, _], _ => rfl
  obtain ⟨fd_A_swept, D_A_swept⟩ := cD.def_ 30 (d := d_A_swept) rfl
  have F_A_swept := funC_of (st := s_swept) D_A_swept
  have b_A_swept := F_A_swept.binds (ps := ["self", "some"]) fun _ _ _ _ _ _ us hl => match us, hl with | [_, _], _ => rfl
  obtain ⟨fd_A_looped, D_A_looped⟩ := cD.def_ 31 (d := d_A_looped) rfl
  have F_A_looped := funC_of (st := s_looped) D_A_looped
  have b_A_looped := F_A_looped.binds (ps := ["self", "some"]) fun _ _ _ _ _ _ us hl => match us, hl with | [_, _], _ => rfl
  obtain ⟨fd_A_chosen, D_A_chosen⟩ := cD.def_ 32 (d := d_A_chosen) rfl
  have F_A_chosen := funC_of (st := s_chosen) D_A_chosen
  have b_A_chosen := F_A_chosen.binds (ps := ["self", "rule", "some"]) fun _ _ _ _ _ _ us hl => match us, hl with | [_, _, _], _ => rfl
  obtain ⟨fd_A_serve, D_A_serve⟩ := cD.def_ 33 (d := d_A_serve) rfl
  have F_A_serve := fun_of (st := s_serve) D_A_serve
  have b_A_serve := F_A_serve.binds (ps := ["self", "rule"]) fun _ _ _ _ _ _ us hl => match us, hl with | [_, _], _ => rfl
  have z_abs := He.free_ok X G (cD.fact 30 (f := .free "abs") rfl)
  have z_bool := He.free_ok X G (cD.fact 31 (f := .free "bool") rfl)
  have z_int := He.free_ok X G (cD.fact 32 (f := .free "int") rfl)
  have z_isinstance := He.free_ok X G (cD.fact 33 (f := .free "isinstance") rfl)
  have z_len := He.free_ok X G (cD.fact 34 (f := .free "len") rfl)
  have z_list := He.free_ok X G (cD.fact 35 (f := .free "list") rfl)
  have z_max := He.free_ok X G (cD.fact 36 (f := .free "max") rfl)
  have z_min := He.free_ok X G (cD.fact 37 (f := .free "min") rfl)
  have z_range := He.free_ok X G (cD.fact 38 (f := .free "range") rfl)
  have z_sorted := He.free_ok X G (cD.fact 39 (f := .free "sorted") rfl)
  have z_str := He.free_ok X G (cD.fact 40 (f := .free "str") rfl)
  have z_sum := He.free_ok X G (cD.fact 41 (f := .free "sum") rfl)
  have z_tuple := He.free_ok X G (cD.fact 42 (f := .free "tuple") rfl)
  obtain ⟨t_FIGURES, c_FIGURES⟩ := He.str_ok X G (cD.fact 50 (f := .str "FIGURES" "0123456789") rfl)
  obtain ⟨t_MOST_ASKS, c_MOST_ASKS⟩ := He.int_ok X G (cD.fact 43 (f := .int "MOST_ASKS" 40) rfl)
  obtain ⟨t_MOST_COME, c_MOST_COME⟩ := He.int_ok X G (cD.fact 44 (f := .int "MOST_COME" 999) rfl)
  obtain ⟨t_MOST_FIGURES, c_MOST_FIGURES⟩ := He.int_ok X G (cD.fact 45 (f := .int "MOST_FIGURES" 3) rfl)
  obtain ⟨t_MOST_OF_ALL, c_MOST_OF_ALL⟩ := He.int_ok X G (cD.fact 46 (f := .int "MOST_OF_ALL" 6) rfl)
  obtain ⟨t_MOST_PACE, c_MOST_PACE⟩ := He.int_ok X G (cD.fact 47 (f := .int "MOST_PACE" 4) rfl)
  obtain ⟨t_MOST_SECTORS, c_MOST_SECTORS⟩ := He.int_ok X G (cD.fact 48 (f := .int "MOST_SECTORS" 16) rfl)
  obtain ⟨t_MOST_TRACKS, c_MOST_TRACKS⟩ := He.int_ok X G (cD.fact 49 (f := .int "MOST_TRACKS" 64) rfl)
  have m_RULES := He.glo_ok X G (cD.fact 27 (f := .glo "RULES") rfl)
  have m_Arm := He.glo_ok X G (cD.fact 26 (f := .glo "Arm") rfl)
  have AC : ArmC K (He.ga K "Arm") := ⟨He.eqO_ok (cD.fact 26 (f := .glo "Arm") rfl), He.cls_ok (cD.fact 28 (f := .cls "Arm") rfl), He.noat_ok (cD.fact 58 (f := .noat "Arm" "disk") rfl), He.noat_ok (cD.fact 59 (f := .noat "Arm" "asks") rfl), He.noat_ok (cD.fact 60 (f := .noat "Arm" "now") rfl), He.noat_ok (cD.fact 61 (f := .noat "Arm" "here") rfl), He.noat_ok (cD.fact 62 (f := .noat "Arm" "up") rfl), He.noat_ok (cD.fact 63 (f := .noat "Arm" "left") rfl)⟩
  have hArm : ∀ C, ArmC K C → C = He.ga K "Arm" := fun C hC => by
    have e := hC.glo.symm.trans AC.glo
    cases e
    rfl
  have MK := He.mkr_ok (cD.fact 29 (f := .mkr "Arm") rfl)
  have M_waiting0 : ∀ C, ArmC K C → Mt K C "waiting" (He.fAd K ("Arm", some "waiting")) fd_A_waiting ["self"] := fun C hC => by
    have e := hArm C hC
    subst e
    exact ⟨He.meth_ok (cD.fact 51 (f := .meth "Arm" "waiting") rfl), b_A_waiting⟩
  have M_far0 : ∀ C, ArmC K C → Mt K C "far" (He.fAd K ("Arm", some "far")) fd_A_far ["self", "number"] := fun C hC => by
    have e := hArm C hC
    subst e
    exact ⟨He.meth_ok (cD.fact 52 (f := .meth "Arm" "far") rfl), b_A_far⟩
  have M_first_of0 : ∀ C, ArmC K C → Mt K C "first_of" (He.fAd K ("Arm", some "first_of")) fd_A_first_of ["self", "some", "key"] := fun C hC => by
    have e := hArm C hC
    subst e
    exact ⟨He.meth_ok (cD.fact 53 (f := .meth "Arm" "first_of") rfl), b_A_first_of⟩
  have M_swept0 : ∀ C, ArmC K C → Mt K C "swept" (He.fAd K ("Arm", some "swept")) fd_A_swept ["self", "some"] := fun C hC => by
    have e := hArm C hC
    subst e
    exact ⟨He.meth_ok (cD.fact 54 (f := .meth "Arm" "swept") rfl), b_A_swept⟩
  have M_looped0 : ∀ C, ArmC K C → Mt K C "looped" (He.fAd K ("Arm", some "looped")) fd_A_looped ["self", "some"] := fun C hC => by
    have e := hArm C hC
    subst e
    exact ⟨He.meth_ok (cD.fact 55 (f := .meth "Arm" "looped") rfl), b_A_looped⟩
  have M_chosen0 : ∀ C, ArmC K C → Mt K C "chosen" (He.fAd K ("Arm", some "chosen")) fd_A_chosen ["self", "rule", "some"] := fun C hC => by
    have e := hArm C hC
    subst e
    exact ⟨He.meth_ok (cD.fact 56 (f := .meth "Arm" "chosen") rfl), b_A_chosen⟩
  have M_serve0 : ∀ C, ArmC K C → Mt K C "serve" (He.fAd K ("Arm", some "serve")) fd_A_serve ["self", "rule"] := fun C hC => by
    have e := hArm C hC
    subst e
    exact ⟨He.meth_ok (cD.fact 57 (f := .meth "Arm" "serve") rfl), b_A_serve⟩
  refine ⟨fd_law, tfL.map (He.cT K), sp_lawT K (tabL K), fun p hp => ?_, fun p hp => ?_, fun p hp => ?_, fun s u => ?_, fun H a ns hl hb hH hS => ⟨a, ns, rfl, hS, fun p hp => ?_, fun _ => rfl⟩, fun base KB NB hTB => ?_⟩
  · obtain ⟨q, hq, rfl⟩ := List.mem_map.mp hp
    exact c.empty q hq
  · obtain ⟨q, hq, rfl⟩ := List.mem_map.mp hp
    exact c.out q hq
  · obtain ⟨q, hq, rfl⟩ := List.mem_map.mp hp
    exact PySem.W.codeHd_of_K X (c.hd q hq)
  · exact FunD.bindsA (ps := ["_law_script"]) D_law (fun _ _ _ _ _ _ us hl => match us, hl with | [_], _ => rfl) s [u] rfl
  · have hq : ∃ q ∈ tfL, p.1 = (He.cT K q).2 := by
      unfold tabL at hp
      simp only [List.mem_cons, List.not_mem_nil, or_false] at hp
      rcases hp with rfl | rfl | rfl | rfl
      · exact ⟨("Arm", some "first_of"), by unfold tfL; simp, rfl⟩
      · exact ⟨("Arm", some "swept"), by unfold tfL; simp, rfl⟩
      · exact ⟨("Arm", some "looped"), by unfold tfL; simp, rfl⟩
      · exact ⟨("Arm", some "chosen"), by unfold tfL; simp, rfl⟩
    obtain ⟨q, hq, e⟩ := hq
    exact TabS.nil (by rw [e]; exact hH _ (List.mem_map.mpr ⟨q, hq, rfl⟩))
  · have nd : ((tabL K).map (·.1)).Nodup := hN
    have AT_first_of : ArmT base mg (tabL K) (He.cT K ("Arm", some "first_of")).1 (He.cT K ("Arm", some "first_of")).2 "Arm.first_of" := ⟨hTB _ (List.mem_map.mpr ⟨("Arm", some "first_of"), by unfold tfL; simp, rfl⟩), (.head _), one_of nd (.head _)⟩
    have AT_swept : ArmT base mg (tabL K) (He.cT K ("Arm", some "swept")).1 (He.cT K ("Arm", some "swept")).2 "Arm.swept" := ⟨hTB _ (List.mem_map.mpr ⟨("Arm", some "swept"), by unfold tfL; simp, rfl⟩), (.tail _ (.head _)), one_of nd (.tail _ (.head _))⟩
    have AT_looped : ArmT base mg (tabL K) (He.cT K ("Arm", some "looped")).1 (He.cT K ("Arm", some "looped")).2 "Arm.looped" := ⟨hTB _ (List.mem_map.mpr ⟨("Arm", some "looped"), by unfold tfL; simp, rfl⟩), (.tail _ (.tail _ (.head _))), one_of nd (.tail _ (.tail _ (.head _)))⟩
    have AT_chosen : ArmT base mg (tabL K) (He.cT K ("Arm", some "chosen")).1 (He.cT K ("Arm", some "chosen")).2 "Arm.chosen" := ⟨hTB _ (List.mem_map.mpr ⟨("Arm", some "chosen"), by unfold tfL; simp, rfl⟩), (.tail _ (.tail _ (.tail _ (.head _)))), one_of nd (.tail _ (.tail _ (.tail _ (.head _))))⟩
    have G_need_disk := ok_need_disk (P := (PySem.Challenge.rw_armorder_k11_asked_again).prog) (w := w) (base := base) F_need_disk c_MOST_TRACKS c_MOST_SECTORS c_MOST_PACE
    have G_need_asks := ok_need_asks (P := (PySem.Challenge.rw_armorder_k11_asked_again).prog) (w := w) (base := base) F_need_asks z_range z_len c_MOST_ASKS c_MOST_COME
    have G_served0 := fun base : Heap => ok_served (P := (PySem.Challenge.rw_armorder_k11_asked_again).prog) (w := w) (mg := mg) (base := base) F_served z_max z_abs
    have G_served := G_served0 base
    have G_need_few := ok_need_few (P := (PySem.Challenge.rw_armorder_k11_asked_again).prog) (w := w) (base := base) F_need_few z_len c_MOST_OF_ALL
    have G_costs_of := ok_costs_of (P := (PySem.Challenge.rw_armorder_k11_asked_again).prog) (w := w) (base := base) F_costs_of z_abs z_max z_sum
    have G_need_rule := ok_need_rule (P := (PySem.Challenge.rw_armorder_k11_asked_again).prog) (w := w) (base := base) F_need_rule m_RULES hR
    have G_far0 := fun base : Heap => ok_far (P := (PySem.Challenge.rw_armorder_k11_asked_again).prog) (w := w) (mg := mg) (base := base) F_A_far
    have G_swept := ok_swept (P := (PySem.Challenge.rw_armorder_k11_asked_again).prog) (w := w) (base := base) (C := He.ga K "Arm") F_A_swept AT_swept F_A_first_of AT_first_of M_first_of0 G_far0 M_far0 z_min z_abs z_int
    have G_looped := ok_looped (P := (PySem.Challenge.rw_armorder_k11_asked_again).prog) (w := w) (base := base) F_A_looped AT_looped F_A_first_of AT_first_of M_first_of0 G_far0 M_far0 z_min
    have G_chosen := ok_chosen (P := (PySem.Challenge.rw_armorder_k11_asked_again).prog) (w := w) (base := base) F_A_chosen AT_chosen F_A_first_of AT_first_of M_first_of0 G_far0 M_far0 G_swept M_swept0 G_looped M_looped0 G_served0 C_served z_min z_abs
    have G_waiting := ok_waiting (P := (PySem.Challenge.rw_armorder_k11_asked_again).prog) (w := w) (base := base) F_A_waiting z_min
    have G_serve := ok_serve (P := (PySem.Challenge.rw_armorder_k11_asked_again).prog) (w := w) (base := base) F_A_serve G_waiting M_waiting0 G_chosen M_chosen0 G_served C_served
    have G_init := ok_init (P := (PySem.Challenge.rw_armorder_k11_asked_again).prog) (w := w) (base := base) F_A___init__ z_list z_range z_len
    have G_rows_by := ok_rows_by (P := (PySem.Challenge.rw_armorder_k11_asked_again).prog) (w := w) (base := base) F_rows_by AC MK m_Arm G_init b_A___init__ G_serve (M_serve0 _ AC) z_range z_len
    have G_by_rule := ok_by_rule (P := (PySem.Challenge.rw_armorder_k11_asked_again).prog) (w := w) (base := base) F_by_rule G_need_disk C_need_disk G_need_asks C_need_asks G_need_rule C_need_rule G_rows_by C_rows_by G_costs_of C_costs_of
    have G_held := ok_held (P := (PySem.Challenge.rw_armorder_k11_asked_again).prog) (w := w) (base := base) F_held G_need_disk C_need_disk G_need_asks C_need_asks G_rows_by C_rows_by G_costs_of C_costs_of m_RULES hR
    have G_least_sum := ok_least_sum (P := (PySem.Challenge.rw_armorder_k11_asked_again).prog) (w := w) (base := base) F_least_sum G_need_disk C_need_disk G_need_asks C_need_asks G_need_few C_need_few G_served C_served z_len z_range z_min
    have G_orders_from := ok_orders_from (P := (PySem.Challenge.rw_armorder_k11_asked_again).prog) (w := w) (base := base) F_orders_from C_orders_from G_served C_served z_len z_range z_abs z_max
    have G_all_costs := ok_all_costs (P := (PySem.Challenge.rw_armorder_k11_asked_again).prog) (w := w) (base := base) F_all_costs G_orders_from C_orders_from
    have G_front := ok_front (P := (PySem.Challenge.rw_armorder_k11_asked_again).prog) (w := w) (base := base) F_front G_need_disk C_need_disk G_need_asks C_need_asks G_need_few C_need_few G_all_costs C_all_costs z_sorted z_list
    have G_served_in := ok_served_in (P := (PySem.Challenge.rw_armorder_k11_asked_again).prog) (w := w) (base := base) F_served_in G_served C_served.m C_served.k C_served.b
    have G_need_order := ok_need_order (P := (PySem.Challenge.rw_armorder_k11_asked_again).prog) (w := w) (base := base) F_need_order z_sorted z_list z_range z_len
    have G_by_order := ok_by_order (P := (PySem.Challenge.rw_armorder_k11_asked_again).prog) (w := w) (base := base) F_by_order G_need_disk C_need_disk.m C_need_disk.k C_need_disk.b G_need_asks C_need_asks.m C_need_asks.k C_need_asks.b G_need_order C_need_order.m C_need_order.k C_need_order.b G_served_in C_served_in.m C_served_in.k C_served_in.b G_costs_of C_costs_of.m C_costs_of.k C_costs_of.b
    have G_written := ok_written (P := (PySem.Challenge.rw_armorder_k11_asked_again).prog) (w := w) (base := base) F_written G_need_disk C_need_disk G_need_asks C_need_asks z_str
    have G_number_of := ok_number_of (P := (PySem.Challenge.rw_armorder_k11_asked_again).prog) (w := w) (base := base) F_number_of z_len z_int c_MOST_FIGURES c_FIGURES
    have G_read := ok_read (P := (PySem.Challenge.rw_armorder_k11_asked_again).prog) (w := w) (base := base) F_read G_need_disk C_need_disk G_need_asks C_need_asks G_number_of C_number_of z_len z_range z_tuple
    have G__law_taken := ok_l_taken (P := (PySem.Challenge.rw_armorder_k11_asked_again).prog) (w := w) (base := base) F__law_taken z_len
    have G__law_disk := ok_l_disk (P := (PySem.Challenge.rw_armorder_k11_asked_again).prog) (w := w) (base := base) F__law_disk G__law_taken C__law_taken.m C__law_taken.k C__law_taken.b
    have G__law_asks := ok_l_asks (P := (PySem.Challenge.rw_armorder_k11_asked_again).prog) (w := w) (base := base) F__law_asks G__law_taken C__law_taken.m C__law_taken.k C__law_taken.b z_min z_range
    have G__law_alike := ok_l_alike (P := (PySem.Challenge.rw_armorder_k11_asked_again).prog) (w := w) (base := base) F__law_alike C__law_alike.b C__law_alike.m z_isinstance z_tuple z_list z_bool z_str z_int z_len z_range 4
    have G__law_answer := ok_l_answer (P := (PySem.Challenge.rw_armorder_k11_asked_again).prog) (w := w) (base := base) (T := tabL K) F__law_answer G_by_order C_by_order G_by_rule C_by_rule G_least_sum C_least_sum G_held C_held G_front C_front G_written C_written G_read C_read z_range z_list z_len
    have G__law_copied := ok_l_copied (P := (PySem.Challenge.rw_armorder_k11_asked_again).prog) (w := w) (base := base) F__law_copied C__law_copied z_isinstance z_tuple z_list 4
    refine fnOk_frozen (ok_law (T := tabL K) F_law G__law_taken C__law_taken G__law_disk C__law_disk G__law_asks C__law_asks G__law_answer C__law_answer G__law_copied C__law_copied G__law_alike C__law_alike z_range z_list z_isinstance) (fun vs H Q E hh => ?_) (fun vs H Q E hh => ?_)
    · obtain ⟨a, ns, rfl, _⟩ := hh
      rfl
    · obtain ⟨a, ns, rfl, hS, hT, q⟩ := hh
      rcases hS with (hx | ⟨o, hx⟩) | hx
      · exact .inr ⟨a, _, hx, fun o => ⟨a, ns, rfl, .inl ⟨o, upd_same⟩, tabs_upd hT hx (by intro _ q; cases q) (by intro _ q; cases q), q⟩⟩
      · exact .inl ⟨a, ns, rfl, .inl ⟨o, hx⟩, hT, q⟩
      · exact .inl ⟨a, ns, rfl, .inr hx, hT, q⟩
end Ag
open PySem PySem.W PySem.Calls PyProof.Rows
theorem PySem.Challenge.cw_armorder_k11_asked_again_holds : PySem.Challenge.rw_armorder_k11_asked_again.Holds := by
  w_on; o_law
  refine HandSHeadRun.head_any (r := OpenLaw.row PySem.Challenge.rw_armorder_k11_asked_again) (q := view (OpenLaw.row PySem.Challenge.rw_armorder_k11_asked_again).prog [49]) (H := Ag.hk) (ob := Ag.ob) (M := 3000) (loose := Ag.looseL) (d := HandSHeadRun.topDef (OpenLaw.row PySem.Challenge.rw_armorder_k11_asked_again).prog 49) (kwd := []) Ag.ob_eq
    (by kernel_rfl) (fun s => by kernel_rfl) Ag.run (by kernel_rfl) (by kernel_rfl) (by kernel_rfl) (by rfl) (by first | assumption | decide +kernel) (by decide +kernel) ⟨rfl, rfl, rfl, rfl, rfl, by decide +kernel⟩ ?hw ?hc
  case hw => w_witness2
  case hc =>
    refine LamX.walk_ofTsE (l := PySem.Challenge.rw_armorder_k11_asked_again) (n := 63) (k := 12) (x := "_law_script") (CX := fun _ => L2.CX0) rfl (by decide) (by kernel_rfl) ⟨rfl, by decide, by decide⟩ ?F (fun _ _ _ _ _ z => z)
    intro w mg fa h Y G hmg0
    obtain ⟨K, KX, c⟩ := Y
    have hmg : mg ("law" : PySem.Str) = some (.ref fa) := by
      have e : (HandSHeadRun.topDef (OpenLaw.row PySem.Challenge.rw_armorder_k11_asked_again).prog 49).name = ("law" : PySem.Str) := by kernel_rfl
      rw [← e]
      exact hmg0
    exact ⟨K, KX, Ag.facts KX G hmg c⟩

