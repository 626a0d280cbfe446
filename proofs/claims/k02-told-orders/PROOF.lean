import PyProof.Rows.All
import Wide.All
import OpenK.AllK
import Wide.FinOn
import HandS.ForMost
import HandS.SortKw
import HandS.SortInts
import HandS.Conv
import HandS.IsInst
import KE.DataMinMax
import KE.SortData
import PySem.Challenge.RW_armorder_k02_whole_told_orders
set_option Elab.async false
set_option linter.all false
set_option maxRecDepth 100000
set_option maxHeartbeats 4000000

namespace Ag
open PySem PySem.Spec PyProof.Rows L2

/-! ### heaps: what stands, a new thing, a changed thing -/
theorem same_new {H : Hp} {p : Addr} {o : HO} (h : H p = none) : Same H (upd H p o) := fun b x e => by
  rw [upd_ne (ne_of_none e h)]
  exact e
theorem same_upd {G H : Hp} {p : Addr} {o : HO} (s : Same G H) (h : G p = none) : Same G (upd H p o) := fun b x e => by
  rw [upd_ne (ne_of_none e h)]
  exact s b x e
theorem same_sqt {K : PySem.W.Frag} {H H' : Hp} {a : Addr} {xs : List V} (e : Same H H') (h : SqT K H a xs) : SqT K H' a xs := by
  rcases h with (h | ⟨o, h⟩) | h
  · exact .inl (.inl (e _ _ h))
  · exact .inl (.inr ⟨o, e _ _ h⟩)
  · exact .inr h
mutual
theorem dp_same {K : PySem.W.Frag} {H H' : Hp} (e : Same H H') : ∀ {d : PyData} {v : V}, Dp K H v d → Dp K H' v d
  | .none, _, h => by cases h; exact .non
  | .bool _, _, h => by cases h; exact .bl _
  | .int _, _, h => by cases h; exact .int _
  | .str _, _, h => by cases h; exact .str _
  | .list _, _, h => by
    cases h with
    | lst hs ha => exact .lst (e.seq hs) (dpa_same e ha)
  | .tuple _, _, h => by
    cases h with
    | tup hs ha => exact .tup (same_sqt e hs) (dpa_same e ha)
  | .dict _, _, h => by cases h
theorem dpa_same {K : PySem.W.Frag} {H H' : Hp} (e : Same H H') : ∀ {ds : List PyData} {vs : List V}, DpAll K H vs ds → DpAll K H' vs ds
  | [], _, h => by cases h; exact .nil
  | _ :: _, _, h => by
    cases h with
    | cons h1 h2 => exact .cons (dp_same e h1) (dpa_same e h2)
end
/-- the heap less what stands at r -/
def wo (H : Hp) (r : Addr) : Hp := fun b => if b = r then none else H b
theorem wo_at {H : Hp} {r : Addr} : wo H r r = none := by unfold wo; rw [if_pos rfl]
theorem wo_ne {H : Hp} {r b : Addr} (h : b ≠ r) : wo H r b = H b := by unfold wo; rw [if_neg h]
theorem wo_sub {H : Hp} {r : Addr} : Same (wo H r) H := fun b o e => by
  by_cases h : b = r
  · rw [h, wo_at] at e
    cases e
  · rw [wo_ne h] at e
    exact e
theorem wo_mono {H H' : Hp} {r : Addr} (s : Same H H') : Same (wo H r) (wo H' r) := fun b o e => by
  by_cases h : b = r
  · rw [h, wo_at] at e
    cases e
  · rw [wo_ne h] at e
    rw [wo_ne h]
    exact s _ _ e
theorem into_wo {G H : Hp} {r : Addr} (s : Same G H) (h : G r = none) : Same G (wo H r) := fun b o e => by
  rw [wo_ne (ne_of_none e h)]
  exact s _ _ e
/-- what is new in H' -/
def nw (H H' : Hp) : Hp := fun b => match H b with
  | none => H' b
  | some _ => none
theorem nw_none {H H' : Hp} {b : Addr} (h : H b = none) : nw H H' b = H' b := by unfold nw; rw [h]
theorem nw_some {H H' : Hp} {b : Addr} {o : HO} (h : H b = some o) : nw H H' b = none := by unfold nw; rw [h]
theorem nw_of {H H' : Hp} {b : Addr} {o : HO} (h : nw H H' b = some o) : H b = none ∧ H' b = some o := by
  cases e : H b with
  | none => rw [nw_none e] at h; exact ⟨rfl, h⟩
  | some x => rw [nw_some e] at h; cases h
theorem nw_sub {H H' : Hp} : Same (nw H H') H' := fun b o e => (nw_of e).2
theorem nw_wo {H H' : Hp} {r : Addr} {o : HO} (h : H r = some o) : Same (nw H H') (wo H' r) := into_wo nw_sub (nw_some h)
theorem nw_into {G H H' : Hp} {r : Addr} (hr : ∃ o, H r = some o) : Same (nw H H') (wo H' r) := let ⟨_, h⟩ := hr; nw_wo h
/-- a later heap, the same beginning -/
theorem nw_later {H H1 H2 : Hp} (s : Same H1 H2) : Same (nw H H1) (nw H H2) := fun b o e => by
  obtain ⟨h1, h2⟩ := nw_of e
  rw [nw_none h1]
  exact s _ _ h2
/-- an earlier beginning -/
theorem nw_earlier {H H1 H2 : Hp} (s : Same H H1) : Same (nw H1 H2) (nw H H2) := fun b o e => by
  obtain ⟨h1, h2⟩ := nw_of e
  rw [nw_none (s.free h1)]
  exact h2
theorem nw_new {H H' : Hp} {p : Addr} {o : HO} (s : Same H H') (h : H' p = none) : nw H (upd H' p o) p = some o := by
  rw [nw_none (s.free h), upd_same]
theorem sqt_dp {K : PySem.W.Frag} {H : Hp} {a : Addr} {xs : List V} {ds : List PyData} (h : SqT K H a xs) (d : DpAll K H xs ds) : Dp K H (.ref a) (.tuple ds) := .tup h d

/-! ### ints, pairs, lists of them as data -/
theorem dpa_ints {K : PySem.W.Frag} {H : Hp} : ∀ ns : List Int, DpAll K H (ns.map V.int) (ns.map PyData.int)
  | [] => .nil
  | n :: r => .cons (.int n) (dpa_ints r)
theorem dpa_ints_inv {K : PySem.W.Frag} {H : Hp} : ∀ {ns : List Int} {vs : List V}, DpAll K H vs (ns.map PyData.int) → vs = ns.map V.int
  | [], _, h => by cases h; rfl
  | n :: r, _, h => by
    cases h with
    | cons h1 h2 =>
      cases h1
      rw [dpa_ints_inv h2]
      rfl
theorem dpa_len {K : PySem.W.Frag} {H : Hp} : ∀ {ds : List PyData} {vs : List V}, DpAll K H vs ds → vs.length = ds.length
  | [], _, h => by cases h; rfl
  | _ :: _, _, h => by
    cases h with
    | cons h1 h2 => simp only [List.length_cons, dpa_len h2]
theorem dpa_get {K : PySem.W.Frag} {H : Hp} : ∀ {ds : List PyData} {vs : List V} {i : Nat} {d : PyData}, DpAll K H vs ds → ds[i]? = some d → ∃ v, vs[i]? = some v ∧ Dp K H v d
  | [], _, _, _, _, e => by simp at e
  | _ :: _, _, 0, _, h, e => by
    cases h with
    | cons h1 h2 => simp at e; subst e; exact ⟨_, rfl, h1⟩
  | _ :: _, _, i + 1, _, h, e => by
    cases h with
    | cons h1 h2 =>
      obtain ⟨v, a, b⟩ := dpa_get (i := i) h2 (by simpa using e)
      exact ⟨v, by simpa using a, b⟩
theorem dpa_get' {K : PySem.W.Frag} {H : Hp} : ∀ {ds : List PyData} {vs : List V} {i : Nat} {v : V}, DpAll K H vs ds → vs[i]? = some v → ∃ d, ds[i]? = some d ∧ Dp K H v d
  | [], _, _, _, h, e => by cases h; simp at e
  | _ :: _, _, 0, _, h, e => by
    cases h with
    | cons h1 h2 => simp at e; subst e; exact ⟨_, rfl, h1⟩
  | _ :: _, _, i + 1, _, h, e => by
    cases h with
    | cons h1 h2 =>
      obtain ⟨v, a, b⟩ := dpa_get' (i := i) h2 (by simpa using e)
      exact ⟨v, by simpa using a, b⟩
theorem dpa_snoc {K : PySem.W.Frag} {H : Hp} : ∀ {ds : List PyData} {vs : List V} {d : PyData} {v : V}, DpAll K H vs ds → Dp K H v d → DpAll K H (vs ++ [v]) (ds ++ [d])
  | [], _, _, _, h, e => by cases h; exact .cons e .nil
  | _ :: _, _, _, _, h, e => by
    cases h with
    | cons h1 h2 => exact .cons h1 (dpa_snoc h2 e)
theorem dp_list {K : PySem.W.Frag} {H : Hp} {v : V} {ds : List PyData} (h : Dp K H v (.list ds)) : ∃ a xs, v = .ref a ∧ SqL K H a xs ∧ DpAll K H xs ds := by
  cases h with
  | lst hs ha => exact ⟨_, _, rfl, hs, ha⟩
theorem dp_tuple {K : PySem.W.Frag} {H : Hp} {v : V} {ds : List PyData} (h : Dp K H v (.tuple ds)) : ∃ a xs, v = .ref a ∧ SqT K H a xs ∧ DpAll K H xs ds := by
  cases h with
  | tup hs ha => exact ⟨_, _, rfl, hs, ha⟩
theorem dp_ints {K : PySem.W.Frag} {H : Hp} {v : V} {ns : List Int} (h : Dp K H v (.list (ns.map PyData.int))) : ∃ a, v = .ref a ∧ SqL K H a (ns.map V.int) := by
  obtain ⟨a, xs, e, hs, ha⟩ := dp_list h
  rw [dpa_ints_inv ha] at hs
  exact ⟨a, e, hs⟩
theorem dp_tints {K : PySem.W.Frag} {H : Hp} {v : V} {ns : List Int} (h : Dp K H v (.tuple (ns.map PyData.int))) : ∃ a, v = .ref a ∧ SqT K H a (ns.map V.int) := by
  obtain ⟨a, xs, e, hs, ha⟩ := dp_tuple h
  rw [dpa_ints_inv ha] at hs
  exact ⟨a, e, hs⟩
theorem dp_ints_of {K : PySem.W.Frag} {H : Hp} {a : Addr} {ns : List Int} (h : SqL K H a (ns.map V.int)) : Dp K H (.ref a) (.list (ns.map PyData.int)) := .lst h (dpa_ints ns)
theorem dp_tints_of {K : PySem.W.Frag} {H : Hp} {a : Addr} {ns : List Int} (h : SqT K H a (ns.map V.int)) : Dp K H (.ref a) (.tuple (ns.map PyData.int)) := .tup h (dpa_ints ns)

theorem eqv_nil (ns : List Int) : PyData.eqv (.list (ns.map PyData.int)) (.list []) = decide (ns = []) := by
  cases ns with
  | nil => simp [PyData.eqv, PyData.eqvAll]
  | cons n r => simp [PyData.eqv, PyData.eqvAll]

/-! ### disks and asks -/
/-- (come, track, sector) -/
abbrev Ask := Int × Int × Int
def dAsk (a : Ask) : PyData := .tuple ([a.1, a.2.1, a.2.2].map PyData.int)
def dAsks (l : List Ask) : PyData := .list (l.map dAsk)
structure Disk where
  tr : Int
  sc : Int
  pa : Int
  he : Int
def dDisk (d : Disk) : PyData := .tuple ([d.tr, d.sc, d.pa, d.he].map PyData.int)
structure GoodDisk (d : Disk) : Prop where
  t1 : 1 ≤ d.tr
  t2 : d.tr ≤ 64
  s1 : 1 ≤ d.sc
  s2 : d.sc ≤ 16
  p1 : 1 ≤ d.pa
  p2 : d.pa ≤ 4
  h1 : 0 ≤ d.he
  h2 : d.he < d.tr
structure GoodAsk (d : Disk) (a : Ask) : Prop where
  c1 : 0 ≤ a.1
  c2 : a.1 ≤ 999
  t1 : 0 ≤ a.2.1
  t2 : a.2.1 < d.tr
  s1 : 0 ≤ a.2.2
  s2 : a.2.2 < d.sc
structure GoodAsks (d : Disk) (l : List Ask) : Prop where
  len : l.length ≤ 40
  all : ∀ a ∈ l, GoodAsk d a
theorem GoodAsks.at {d : Disk} {l : List Ask} (g : GoodAsks d l) {i : Nat} {a : Ask} (h : l[i]? = some a) : GoodAsk d a := g.all a (List.mem_of_getElem? h)
theorem dp_asks {K : PySem.W.Frag} {H : Hp} {v : V} {l : List Ask} (h : Dp K H v (dAsks l)) : ∃ a xs, v = .ref a ∧ SqL K H a xs ∧ xs.length = l.length ∧
    ∀ (i : Nat) (k : Ask), l[i]? = some k → ∃ p, xs[i]? = some (.ref p) ∧ SqT K H p [.int k.1, .int k.2.1, .int k.2.2] ∧ Dp K H (.ref p) (dAsk k) := by
  obtain ⟨a, xs, e, hs, ha⟩ := dp_list h
  refine ⟨a, xs, e, hs, by rw [dpa_len ha, List.length_map], fun i k hk => ?_⟩
  obtain ⟨v, hv, hd⟩ := dpa_get (i := i) (d := dAsk k) ha (by rw [List.getElem?_map, hk]; rfl)
  obtain ⟨p, rfl, ht⟩ := dp_tints hd
  exact ⟨p, hv, ht, hd⟩
theorem dp_disk {K : PySem.W.Frag} {H : Hp} {v : V} {d : Disk} (h : Dp K H v (dDisk d)) : ∃ a, v = .ref a ∧ SqT K H a [.int d.tr, .int d.sc, .int d.pa, .int d.he] := dp_tints h

/-! ### all but what stands at r stays -/
def SameBut (r : Addr) (H H' : Hp) : Prop := ∀ b o, b ≠ r → H b = some o → H' b = some o
theorem sb_refl {r : Addr} {H : Hp} : SameBut r H H := fun _ _ _ e => e
theorem sb_of {r : Addr} {H H' : Hp} (s : Same H H') : SameBut r H H' := fun b o _ e => s b o e
theorem sb_trans {r : Addr} {H H1 H2 : Hp} (a : SameBut r H H1) (b : SameBut r H1 H2) : SameBut r H H2 := fun c o n e => b c o n (a c o n e)
theorem sb_upd {r : Addr} {H H' : Hp} {o : HO} (s : SameBut r H H') : SameBut r H (upd H' r o) := fun b x n e => by
  rw [upd_ne n]
  exact s b x n e
theorem sb_new {r p : Addr} {H H' : Hp} {o : HO} (s : SameBut r H H') (h : H' p = none) : SameBut r H (upd H' p o) := fun b x n e => by
  rw [upd_ne (ne_of_none (s b x n e) h)]
  exact s b x n e
theorem sb_old {r p : Addr} {H H' : Hp} {o : HO} (s : SameBut r H H') (h : H p = none) : SameBut r H (upd H' p o) := fun b x n e => by
  rw [upd_ne (ne_of_none e h)]
  exact s b x n e
theorem sb_wo {r : Addr} {H H' : Hp} (s : SameBut r H H') : Same (wo H r) (wo H' r) := fun b o e => by
  by_cases h : b = r
  · rw [h, wo_at] at e
    cases e
  · rw [wo_ne h] at e
    rw [wo_ne h]
    exact s _ _ h e
theorem sb_free {r p : Addr} {H H' : Hp} (s : SameBut r H H') (n : p ≠ r) (h : H' p = none) : H p = none := by
  cases e : H p with
  | none => rfl
  | some o =>
    rw [s p o n e] at h
    cases h
theorem wo2_step {r F : Addr} {H H' : Hp} (s : ∀ b o, b ≠ r → b ≠ F → H b = some o → H' b = some o) : Same (wo (wo H r) F) (wo (wo H' r) F) := fun b o e => by
  have n1 : b ≠ F := fun z => by
    rw [z, wo_at] at e
    cases e
  rw [wo_ne n1] at e
  have n2 : b ≠ r := fun z => by
    rw [z, wo_at] at e
    cases e
  rw [wo_ne n2] at e
  rw [wo_ne n1, wo_ne n2]
  exact s b o n2 n1 e
/-- what is new in H', besides F -/
def fr (H H' : Hp) (F : Addr) : Hp := wo (nw H H') F
theorem fr_step {H H1 H2 : Hp} {F : Addr} (s : SameBut F H1 H2) : Same (fr H H1 F) (fr H H2 F) := fun b o e => by
  have n : b ≠ F := fun z => by
    unfold fr at e
    rw [z, wo_at] at e
    cases e
  unfold fr at e ⊢
  rw [wo_ne n] at e
  rw [wo_ne n]
  obtain ⟨h1, h2⟩ := nw_of e
  rw [nw_none h1]
  exact s _ _ n h2
theorem fr_at {H H' : Hp} {F p : Addr} {o : HO} (n : p ≠ F) (h : H p = none) (e : H' p = some o) : fr H H' F p = some o := by
  unfold fr
  rw [wo_ne n, nw_none h]
  exact e
theorem fr_nw {H H' : Hp} {F : Addr} : Same (fr H H' F) (nw H H') := wo_sub
theorem fr_sub {H H' : Hp} {F : Addr} : Same (fr H H' F) H' := wo_sub.trans nw_sub

/-- what is new in H', besides F and W -/
def fr2 (H H' : Hp) (F W : Addr) : Hp := wo (fr H H' F) W
theorem fr2_step {H H1 H2 : Hp} {F W : Addr} (s : ∀ b o, b ≠ F → b ≠ W → H1 b = some o → H2 b = some o) : Same (fr2 H H1 F W) (fr2 H H2 F W) := fun b o e => by
  have n1 : b ≠ W := fun z => by
    unfold fr2 at e
    rw [z, wo_at] at e
    cases e
  unfold fr2 at e ⊢
  rw [wo_ne n1] at e
  rw [wo_ne n1]
  have n2 : b ≠ F := fun z => by
    unfold fr at e
    rw [z, wo_at] at e
    cases e
  unfold fr at e ⊢
  rw [wo_ne n2] at e
  rw [wo_ne n2]
  obtain ⟨h1, h2⟩ := nw_of e
  rw [nw_none h1]
  exact s _ _ n2 n1 h2
theorem fr2_at {H H' : Hp} {F W p : Addr} {o : HO} (n : p ≠ F) (n2 : p ≠ W) (h : H p = none) (e : H' p = some o) : fr2 H H' F W p = some o := by
  unfold fr2
  rw [wo_ne n2]
  exact fr_at n h e

/-! ### orders: numbers -/
def nints (os : List Nat) : List Int := os.map fun (i : Nat) => (i : Int)
theorem nints_len (os : List Nat) : (nints os).length = os.length := List.length_map ..
theorem nints_at {os : List Nat} {i : Nat} {x : V} (h : ((nints os).map V.int)[i]? = some x) : ∃ n, os[i]? = some n ∧ x = V.int (n : Int) := by
  unfold nints at h
  rw [List.map_map, List.getElem?_map] at h
  cases e : os[i]? with
  | none =>
    rw [e] at h
    cases h
  | some n =>
    rw [e] at h
    exact ⟨n, rfl, (Option.some.inj h).symm⟩
theorem nints_get {os : List Nat} {i n : Nat} (h : os[i]? = some n) : ((nints os).map V.int)[i]? = some (V.int (n : Int)) := by
  unfold nints
  rw [List.map_map, List.getElem?_map, h]
  rfl
theorem take_more {α : Type} : ∀ {l : List α} {i : Nat} {x : α}, l[i]? = some x → l.take (i + 1) = l.take i ++ [x]
  | [], i, x, h => by simp at h
  | a :: l, 0, x, h => by
    have e : a = x := Option.some.inj h
    subst e
    rfl
  | a :: l, i + 1, x, h => by
    have ih := take_more (l := l) (i := i) (x := x) h
    show a :: l.take (i + 1) = a :: l.take i ++ [x]
    rw [ih]
    rfl
theorem getD_of {α : Type} {l : List α} {i : Nat} {x d : α} (h : l[i]? = some x) : l.getD i d = x := by
  rw [List.getD_eq_getElem?_getD, h]
  rfl
/-- a rising list of the numbers below n, in any order, is 0, 1, .. -/
theorem rising_range {n : Nat} {ns : List Int} {os : List Nat} (p : ns.Perm (nints os)) (q : os.Perm (List.range n)) (r : ns.Pairwise (· ≤ ·)) : ns = nints (List.range n) := by
  have p2 : ns.Perm (nints (List.range n)) := p.trans (q.map _)
  refine List.Perm.eq_of_pairwise (le := fun a b : Int => a ≤ b) (fun a b _ _ h1 h2 => Int.le_antisymm h1 h2) r ?_ p2
  unfold nints
  rw [List.pairwise_map]
  exact List.pairwise_le_range.imp fun h => by exact_mod_cast h
theorem rg_nints (n : Nat) : rgV 0 (n : Int) = (nints (List.range n)).map V.int := by
  unfold rgV nints
  rw [List.map_map]
  have e : ((n : Int) - 0).toNat = n := by omega
  rw [e]
  refine List.map_congr_left fun i _ => ?_
  show V.int (0 + (i : Int)) = V.int (i : Int)
  rw [Int.zero_add]
theorem canLay_ints : ∀ ns : List Int, PyData.canLayAll0 (ns.map PyData.int) = true
  | [] => by simp [PyData.canLayAll0]
  | n :: r => by simp [PyData.canLayAll0, PyData.canLay0, canLay_ints r]
theorem shaped_ints (ns : List Int) : SeqAt.shaped (.list (ns.map PyData.int)) = true := by
  unfold SeqAt.shaped
  simp [PyData.canLay0, canLay_ints, PyData.depth, PySem.W.depth_ints]
theorem shaped_tints (ns : List Int) : SeqAt.shaped (.tuple (ns.map PyData.int)) = true := by
  unfold SeqAt.shaped
  simp [PyData.canLay0, canLay_ints, PyData.depth, PySem.W.depth_ints]

theorem canLay_asks : ∀ l : List Ask, PyData.canLayAll0 (l.map dAsk) = true
  | [] => by simp [PyData.canLayAll0]
  | n :: r => by simp [PyData.canLayAll0, PyData.canLay0, dAsk, canLay_asks r]
theorem depth_asks : ∀ l : List Ask, PyData.depthAll (l.map dAsk) ≤ 1
  | [] => by simp [PyData.depthAll]
  | n :: r => by
    have h := depth_asks r
    have e : PyData.depth (dAsk n) = 1 := by
      unfold dAsk
      rw [PyData.depth, PySem.W.depth_ints]
    rw [List.map_cons, PyData.depthAll, e]
    omega
theorem shaped_asks (l : List Ask) : SeqAt.shaped (dAsks l) = true := by
  have := depth_asks l
  unfold SeqAt.shaped
  simp [PyData.canLay0, canLay_asks, PyData.depth, dAsks]
  omega

/-! ### the row of the script: (script, place, mixed) -/
/-- the script: read, never written -/
def ScrAt (K : PySem.W.Frag) (H : Hp) (a : Addr) (ns : List Int) : Prop :=
  (∃ o, H a = some (.frz o (.lst (ns.map V.int)))) ∨
    ∃ (o : Obj) (its : Array Value) (n : Nat), K.lookup a = some o ∧ o.cls = .type "list" ∧ o.dict = none ∧ o.data = .seq its n ∧ its.size ≤ sizeLine ∧ Vals (ns.map V.int) its.toList
theorem ScrAt.sql {K : PySem.W.Frag} {H : Hp} {a : Addr} {ns : List Int} (h : ScrAt K H a ns) : SqL K H a (ns.map V.int) := by
  rcases h with ⟨o, h⟩ | h
  · exact .inl (.inr ⟨o, h⟩)
  · exact .inr h
theorem scr_of {K : PySem.W.Frag} {H : Hp} {a : Addr} {ns : List Int} (hO : Only H) (h : SqL K H a (ns.map V.int)) : ScrAt K H a ns := by
  rcases h with (h | ⟨o, h⟩) | h
  · rcases hO a with e | ⟨o, xs, e⟩
    · rw [e] at h
      cases h
    · rw [e] at h
      cases h
  · exact .inl ⟨o, h⟩
  · exact .inr h
theorem ScrAt.but {K : PySem.W.Frag} {H H' : Hp} {a : Addr} {ns : List Int} (h : ScrAt K H a ns) (s : Same H H') : ScrAt K H' a ns := by
  rcases h with ⟨o, h⟩ | h
  · exact .inl ⟨o, s _ _ h⟩
  · exact .inr h
theorem ScrAt.put {K : PySem.W.Frag} {H : Hp} {a b : Addr} {ns : List Int} {xs : List V} {o : HO} (h : ScrAt K H a ns) (e : H b = some (.lst xs)) : ScrAt K (upd H b o) a ns := by
  rcases h with ⟨x, h⟩ | h
  · have n : a ≠ b := ne_of h e (by intro z; cases z)
    exact .inl ⟨x, by rw [upd_ne n]; exact h⟩
  · exact .inr h
theorem ScrAt.of {K : PySem.W.Frag} {H H' : Hp} {a : Addr} {ns : List Int} (h : ScrAt K H a ns) (s : ∀ b o u, H b = some (.frz o u) → H' b = some (.frz o u)) : ScrAt K H' a ns := by
  rcases h with ⟨x, h⟩ | h
  · exact .inl ⟨x, s _ _ _ h⟩
  · exact .inr h
def RowAt (K : PySem.W.Frag) (H : Hp) (r : Addr) : Prop := ∃ (a : Addr) (ns : List Int) (pos mix : Int), 0 ≤ pos ∧ H r = some (.lst [.ref a, .int pos, .int mix]) ∧ ScrAt K H a ns
theorem RowAt.but {K : PySem.W.Frag} {H H' : Hp} {r : Addr} (h : RowAt K H r) (s : Same H H') : RowAt K H' r := by
  obtain ⟨a, ns, pos, mix, h1, h2, h3⟩ := h
  exact ⟨a, ns, pos, mix, h1, s _ _ h2, h3.but s⟩
theorem RowAt.put {K : PySem.W.Frag} {H : Hp} {r b : Addr} {xs : List V} {o : HO} (h : RowAt K H r) (n : b ≠ r) (e : H b = some (.lst xs)) : RowAt K (upd H b o) r := by
  obtain ⟨a, ns, pos, mix, h1, h2, h3⟩ := h
  exact ⟨a, ns, pos, mix, h1, by rw [upd_ne n.symm]; exact h2, h3.put e⟩
theorem row_start {K : PySem.W.Frag} {H : Hp} {a r : Addr} {ns : List Int} (h : ScrAt K H a ns) (e : H r = none) : RowAt K (upd H r (.lst [.ref a, .int 0, .int 0])) r := ⟨a, ns, 0, 0, Int.le_refl _, upd_same, h.but (same_new e)⟩
theorem same_sb {G H H' : Hp} {r : Addr} (s : Same G H) (e : G r = none) (b : SameBut r H H') : Same G H' := fun c o q => b c o (ne_of_none q e) (s _ _ q)
theorem RowAt.some {K : PySem.W.Frag} {H : Hp} {r : Addr} (h : RowAt K H r) : ∃ o, H r = Option.some o := by
  obtain ⟨a, ns, pos, mix, h1, h2, h3⟩ := h
  exact ⟨_, h2⟩
theorem RowAt.ne {K : PySem.W.Frag} {H : Hp} {r p : Addr} (h : RowAt K H r) (e : H p = none) : p ≠ r := fun z => by
  obtain ⟨o, h⟩ := h.some
  rw [z, h] at e
  cases e

/-! ### max(ns, default=0) -/
def maxl : List Int → Int
  | [] => 0
  | n :: r => r.foldl max n
theorem reads_int {h : Heap} {v : Value} {n : Int} {as : List Addr} (r : Reads h v (.int n) as) : ∃ t, v = .int n t := by
  cases r
  exact ⟨_, rfl⟩
theorem alike_ints_all (ns : List Int) : PySem.W.AlikeAll (ns.map PyData.int) := by
  refine ⟨fun x hx y hy => ?_, fun x hx => ?_⟩
  · obtain ⟨i, _, rfl⟩ := List.mem_map.mp hx
    obtain ⟨j, _, rfl⟩ := List.mem_map.mp hy
    simp [PySem.W.alike]
  · obtain ⟨i, _, rfl⟩ := List.mem_map.mp hx
    exact fun z => by cases z
def rMaxD0 (K : PySem.W.Frag) : List V → List V → Hp → VK → Prop := fun vs zs H Q => ∃ (a : Addr) (ns : List Int), vs = [V.ref a] ∧ zs = [.int 0] ∧ SqL K H a (ns.map V.int) ∧ Q (.int (maxl ns)) H
section
variable {X : Cx}
theorem cr_maxD0 (hc : X.calm = true) (hu : X.A.units + 1 < cLine) : CallRK X (.builtin "max") [Str.ofString "default"] (rMaxD0 X.K) := by
  intro pins s σ H xs zs us ws Q I r rz h
  obtain ⟨a, ns, rfl, rfl, hs, q⟩ := h
  obtain ⟨its, rv, hl, _⟩ := I.list hs
  rw [Vals.ref1 r]
  cases rz with
  | cons rz1 rz2 =>
    cases rz2
    obtain ⟨t, rfl⟩ := rz1
    obtain ⟨as, hr⟩ := Dp.readsAll I (ns.map PyData.int) _ its (dpa_ints ns) rv
    refine PySem.W.max_list_default (I.ok.hd hc) hl.isList (by simpa using hr) (alike_ints_all ns) (by rw [PySem.W.depth_ints]; exact hu) (fun e h' tk hk => ?_) fun y ys i v h' tk bs e hv hread hk => ?_
    · have e0 : ns = [] := by
        cases ns with
        | nil => rfl
        | cons n r => cases e
      subst e0
      exact ⟨.int 0, H, I.kept hk, ⟨_, rfl⟩, q⟩
    · obtain ⟨n, r, rfl, rfl, rfl⟩ : ∃ n r, ns = n :: r ∧ y = .int n ∧ ys = r.map PyData.int := by
        cases ns with
        | nil => cases e
        | cons n r =>
          rw [List.map_cons] at e
          injection e with e1 e2
          exact ⟨n, r, rfl, e1.symm, e2.symm⟩
      rw [PySem.W.maxD_ints] at hread
      obtain ⟨t', rfl⟩ := reads_int hread
      exact ⟨.int (maxl (n :: r)), H, I.kept hk, ⟨_, rfl⟩, q⟩
end
end Ag

namespace Ag
open PySem PySem.Spec PyProof.Rows L2

/-! ### the mathematics: when an ask is done -/
def iabs (i : Int) : Int := if i < 0 then -i else i
def imax (i j : Int) : Int := if j > i then j else i
def serve (d : Disk) (now here : Int) (a : Ask) : Int :=
  imax now a.1 + iabs (a.2.1 - here) * d.pa + (a.2.2 - (imax now a.1 + iabs (a.2.1 - here) * d.pa)) % d.sc + 1
theorem iabs_nn (i : Int) : 0 ≤ iabs i := by
  unfold iabs
  split <;> omega
theorem imax_l (i j : Int) : i ≤ imax i j := by
  unfold imax
  split <;> omega
theorem imax_r (i j : Int) : j ≤ imax i j := by
  unfold imax
  split <;> omega
theorem serve_lb {d : Disk} (g : GoodDisk d) (now here : Int) (a : Ask) : imax now a.1 + 1 ≤ serve d now here a := by
  unfold serve
  have h1 : 0 ≤ iabs (a.2.1 - here) * d.pa := Int.mul_nonneg (iabs_nn _) (by have := g.p1; omega)
  have h2 := Int.emod_nonneg (a.2.2 - (imax now a.1 + iabs (a.2.1 - here) * d.pa)) (b := d.sc) (by have := g.s1; omega)
  omega
/-- rows: (number, when it is done), in an order -/
def rowsOf (d : Disk) (asks : List Ask) : Int → Int → List Nat → List (Nat × Int)
  | _, _, [] => []
  | now, here, i :: r => (i, serve d now here (asks.getD i (0, 0, 0))) :: rowsOf d asks (serve d now here (asks.getD i (0, 0, 0))) (asks.getD i (0, 0, 0)).2.1 r
def dRow (r : Nat × Int) : PyData := .tuple ([(r.1 : Int), r.2].map PyData.int)
def endOf (d : Disk) (asks : List Ask) : Int → Int → List Nat → Int × Int
  | now, here, [] => (now, here)
  | now, here, i :: r => endOf d asks (serve d now here (asks.getD i (0, 0, 0))) (asks.getD i (0, 0, 0)).2.1 r
theorem rowsOf_snoc (d : Disk) (asks : List Ask) (i : Nat) : ∀ (r : List Nat) (now here : Int), rowsOf d asks now here (r ++ [i]) = rowsOf d asks now here r ++ [(i, serve d (endOf d asks now here r).1 (endOf d asks now here r).2 (asks.getD i (0, 0, 0)))]
  | [], _, _ => rfl
  | j :: r, now, here => by
    show _ :: rowsOf d asks _ _ (r ++ [i]) = _
    rw [rowsOf_snoc d asks i r]
    rfl
theorem endOf_snoc (d : Disk) (asks : List Ask) (i : Nat) : ∀ (r : List Nat) (now here : Int), endOf d asks now here (r ++ [i]) = (serve d (endOf d asks now here r).1 (endOf d asks now here r).2 (asks.getD i (0, 0, 0)), (asks.getD i (0, 0, 0)).2.1)
  | [], _, _ => rfl
  | j :: r, now, here => endOf_snoc d asks i r _ _
theorem rowsOf_len (d : Disk) (asks : List Ask) : ∀ (r : List Nat) (now here : Int), (rowsOf d asks now here r).length = r.length
  | [], _, _ => rfl
  | j :: r, now, here => by
    show (rowsOf d asks _ _ r).length + 1 = r.length + 1
    rw [rowsOf_len d asks r]
theorem rowsOf_fst (d : Disk) (asks : List Ask) : ∀ (r : List Nat) (now here : Int), (rowsOf d asks now here r).map (·.1) = r
  | [], _, _ => rfl
  | j :: r, now, here => by
    show j :: (rowsOf d asks _ _ r).map (·.1) = j :: r
    rw [rowsOf_fst d asks r]
/-- how far the arm goes -/
def wayOf (asks : List Ask) : Int → List (Nat × Int) → Int
  | _, [] => 0
  | here, r :: rest => iabs ((asks.getD r.1 (0, 0, 0)).2.1 - here) + wayOf asks (asks.getD r.1 (0, 0, 0)).2.1 rest
def hereOf (asks : List Ask) : Int → List (Nat × Int) → Int
  | here, [] => here
  | _, r :: rest => hereOf asks (asks.getD r.1 (0, 0, 0)).2.1 rest
theorem wayOf_snoc (asks : List Ask) (x : Nat × Int) : ∀ (rs : List (Nat × Int)) (here : Int), wayOf asks here (rs ++ [x]) = wayOf asks here rs + iabs ((asks.getD x.1 (0, 0, 0)).2.1 - hereOf asks here rs)
  | [], here => by
    show iabs _ + 0 = 0 + iabs _
    simp [hereOf]
  | r :: rs, here => by
    show iabs _ + wayOf asks _ (rs ++ [x]) = iabs _ + wayOf asks _ rs + _
    rw [wayOf_snoc asks x rs]
    simp only [hereOf]
    omega
theorem hereOf_snoc (asks : List Ask) (x : Nat × Int) : ∀ (rs : List (Nat × Int)) (here : Int), hereOf asks here (rs ++ [x]) = (asks.getD x.1 (0, 0, 0)).2.1
  | [], here => rfl
  | r :: rs, here => hereOf_snoc asks x rs _
def waitOf (asks : List Ask) (r : Nat × Int) : Int := r.2 - (asks.getD r.1 (0, 0, 0)).1
def waitsOf (asks : List Ask) (rs : List (Nat × Int)) : List Int := rs.map (waitOf asks)
/-- (way, longest, all) -/
def costsOf (d : Disk) (asks : List Ask) (rs : List (Nat × Int)) : Int × Int × Int := (wayOf asks d.he rs, maxl (waitsOf asks rs), (waitsOf asks rs).sum)
def dCosts (c : Int × Int × Int) : PyData := .tuple ([c.1, c.2.1, c.2.2].map PyData.int)
def dRes (rs : List (Nat × Int)) (c : Int × Int × Int) : PyData := .tuple [.list (rs.map dRow), dCosts c]
theorem foldl_max_le (m : Int) : ∀ (l : List Int) (n : Int), m ≤ n → m ≤ l.foldl max n
  | [], n, h => h
  | x :: r, n, h => foldl_max_le m r (max n x) (by omega)
/-- max([0] + waits) is the same where no wait is below 0 -/
theorem maxl_zero : ∀ (l : List Int), (∀ x ∈ l, 0 ≤ x) → maxl (0 :: l) = maxl l
  | [], _ => rfl
  | x :: r, h => by
    show r.foldl max (max 0 x) = r.foldl max x
    have hx := h x List.mem_cons_self
    rw [show max 0 x = x by omega]
theorem end_here (d : Disk) (asks : List Ask) : ∀ (r : List Nat) (now here : Int), (endOf d asks now here r).2 = hereOf asks here (rowsOf d asks now here r)
  | [], _, _ => rfl
  | i :: r, now, here => end_here d asks r _ _
theorem rows_waits {d : Disk} (g : GoodDisk d) (asks : List Ask) : ∀ (r : List Nat) (now here : Int), ∀ x ∈ waitsOf asks (rowsOf d asks now here r), 1 ≤ x
  | [], _, _, x, hx => by simp [rowsOf, waitsOf] at hx
  | i :: r, now, here, x, hx => by
    unfold rowsOf waitsOf at hx
    rw [List.map_cons, List.mem_cons] at hx
    rcases hx with rfl | hx
    · have h1 := serve_lb g now here (asks.getD i (0, 0, 0))
      have h2 := imax_r now (asks.getD i (0, 0, 0)).1
      show 1 ≤ serve d now here (asks.getD i (0, 0, 0)) - (asks.getD i (0, 0, 0)).1
      omega
    · exact rows_waits g asks r _ _ x hx
/-! ### step by step: what the law does -/
theorem iabs_step {t h : Int} (ne : h ≠ t) : iabs (t - (h + (if t < h then -1 else 1))) = iabs (t - h) - 1 := by
  unfold iabs
  split <;> split <;> split <;> omega
theorem emod_step {s n c : Int} (hc : 0 < c) (hs0 : 0 ≤ s) (hs : s < c) (ne : n % c ≠ s) : (s - (n + 1)) % c = (s - n) % c - 1 ∧ 0 < (s - n) % c := by
  have h0 := Int.emod_nonneg (s - n) (b := c) (by omega)
  have h1 := Int.emod_lt_of_pos (s - n) hc
  have hz : (s - n) % c ≠ 0 := fun e => by
    have d : c ∣ s - n := Int.dvd_of_emod_eq_zero e
    obtain ⟨k, hk⟩ := d
    have e2 : n = s + c * (-k) := by
      rw [Int.mul_neg]
      omega
    rw [e2, Int.add_mul_emod_self_left, Int.emod_eq_of_lt hs0 hs] at ne
    exact ne rfl
  refine ⟨?_, by omega⟩
  have e : s - (n + 1) = ((s - n) % c - 1) + c * ((s - n) / c) := by
    have := Int.mul_ediv_add_emod (s - n) c
    omega
  rw [e, Int.add_mul_emod_self_left]
  exact Int.emod_eq_of_lt (by omega) (by omega)
theorem emod_end {s n c : Int} (hs : n % c = s) : (s - n) % c = 0 := by
  rw [← hs]
  have := Int.mul_ediv_add_emod n c
  have e : n % c - n = 0 + c * (-(n / c)) := by
    rw [Int.mul_neg]
    omega
  rw [e, Int.add_mul_emod_self_left]
  simp
end Ag

namespace Ag
open PySem PySem.Spec PyProof.Rows L2
/-! ### the text -/
def top (i : Nat) : Stmt := PySem.Challenge.pw_armorder_k02_whole_told_orders.main.body.getD i (.Pass ⟨0, 0, 0, 0⟩)
theorem ifd_t {p : Prop} [Decidable p] {A B : Prop} (h : p) (a : A) : if decide p = true then A else B := by
  rw [decide_eq_true h]
  exact iteT a
theorem ifd_f {p : Prop} [Decidable p] {A B : Prop} (h : ¬ p) (b : B) : if decide p = true then A else B := by
  rw [decide_eq_false h]
  exact iteF b
theorem ifnd_t {p : Prop} [Decidable p] {A B : Prop} (h : p) (b : B) : if (!decide p) = true then A else B := by
  rw [decide_eq_true h]
  exact iteF b
theorem ifnd_f {p : Prop} [Decidable p] {A B : Prop} (h : ¬ p) (a : A) : if (!decide p) = true then A else B := by
  rw [decide_eq_false h]
  exact iteT a
theorem if2d {p : Prop} [Decidable p] {A B : Prop} (h1 : p → A) (h2 : ¬ p → B) : if decide p = true then A else B := by
  by_cases h : p
  · exact ifd_t h (h1 h)
  · exact ifd_f h (h2 h)
theorem rel_int {i : Int} {t : Tok} : RelV (.int i) (.int i t) := ⟨_, rfl⟩
/-! ### need_disk -/
abbrev s_need_disk : Stmt := top 11
def sp_need_disk (K : PySem.W.Frag) : Sp := fun vs H Q _ => ∃ (v : V) (d : Disk), vs = [v] ∧ Dp K H v (dDisk d) ∧ GoodDisk d ∧ Q .non H
theorem sc_need_disk : FnScope ["disk", "tracks", "sectors", "pace", "here"] ["disk"] (defScope s_need_disk) := ⟨rfl, rfl, rfl, by decide +kernel, rfl, by decide +kernel, by decide +kernel⟩
section
variable {P : Program} {w : World} {K : PySem.W.Frag} {mg : Str → Option Value} {base : Heap}
theorem ok_need_disk {f : Addr} {fd : FuncData} (F : Fun K "need_disk" "need_disk" s_need_disk f fd) {t1 t2 t3 : Tok} (m1 : mg "MOST_TRACKS" = some (.int 64 t1)) (m2 : mg "MOST_SECTORS" = some (.int 16 t2)) (m3 : mg "MOST_PACE" = some (.int 4 t3)) :
    FnOk P w K mg base CX0 1 f fd ["disk"] (sp_need_disk K) := by
  refine F.ok sc_need_disk (fun vs H Q E h => ?_) (fun cdv A outer s H vs Q E hr h => ?_)
  · obtain ⟨v, d, rfl, _⟩ := h
    rfl
  · obtain ⟨v, d, rfl, hd, g, q⟩ := h
    obtain ⟨a, rfl, hT⟩ := dp_disk hd
    have nd := sc_need_disk.nd
    refine ⟨_, pss_cons (ps_asg (pv 0) (pg_tup rfl (pgs_cons (pg_name (i := 1) nd rfl (.inl rfl)) (pgs_cons (pg_name (i := 2) nd rfl (.inl rfl)) (pgs_cons (pg_name (i := 3) nd rfl (.inl rfl)) (pgs_cons (pg_name (i := 4) nd rfl (.inl rfl)) pgs_nil))))))
      (pss_cons (ps_if (pt_not (pt_chain op_le op_le pe_int (pv 1) (pe_glob rfl m1 rel_int))) (pss_one ps_never) pss_nil)
      (pss_cons (ps_if (pt_not (pt_chain op_le op_le pe_int (pv 2) (pe_glob rfl m2 rel_int))) (pss_one ps_never) pss_nil)
      (pss_cons (ps_if (pt_not (pt_chain op_le op_le pe_int (pv 3) (pe_glob rfl m3 rel_int))) (pss_one ps_never) pss_nil)
      (pss_one (ps_if (pt_not (pt_chain op_le op_lt pe_int (pv 4) (pv 1))) (pss_one ps_never) pss_nil))))), ?_⟩
    refine ⟨_, rfl, a, _, rfl, hT, rfl, _, _, rfl, _, _, rfl, _, _, rfl, _, _, rfl, rfl, ?_⟩
    refine ⟨_, rfl, _, _, rfl, rfl, _, rfl, ifd_t g.t1 ⟨_, _, rfl, rfl, _, rfl, ifnd_t g.t2 ?_⟩⟩
    refine ⟨_, rfl, _, _, rfl, rfl, _, rfl, ifd_t g.s1 ⟨_, _, rfl, rfl, _, rfl, ifnd_t g.s2 ?_⟩⟩
    refine ⟨_, rfl, _, _, rfl, rfl, _, rfl, ifd_t g.p1 ⟨_, _, rfl, rfl, _, rfl, ifnd_t g.p2 ?_⟩⟩
    refine ⟨_, rfl, _, _, rfl, rfl, _, rfl, ifd_t g.h1 ⟨_, rfl, _, _, rfl, rfl, _, rfl, ifnd_t g.h2 ?_⟩⟩
    exact q
end
/-! ### need_asks -/
abbrev s_need_asks : Stmt := top 12
def sp_need_asks (K : PySem.W.Frag) : Sp := fun vs H Q _ => ∃ (v u : V) (d : Disk) (l : List Ask), vs = [v, u] ∧ Dp K H v (dDisk d) ∧ Dp K H u (dAsks l) ∧ GoodAsks d l ∧ Q .non H
theorem sc_need_asks : FnScope ["disk", "asks", "number", "come", "track", "sector", "good"] ["disk", "asks"] (defScope s_need_asks) := ⟨rfl, rfl, rfl, by decide +kernel, rfl, by decide +kernel, by decide +kernel⟩
section
variable {P : Program} {w : World} {K : PySem.W.Frag} {mg : Str → Option Value} {base : Heap}
theorem ok_need_asks {f : Addr} {fd : FuncData} (F : Fun K "need_asks" "need_asks" s_need_asks f fd) (mr : mg "range" = none) (ml : mg "len" = none) {t1 t2 : Tok} (m1 : mg "MOST_ASKS" = some (.int 40 t1)) (m2 : mg "MOST_COME" = some (.int 999 t2)) :
    FnOk P w K mg base CX0 1 f fd ["disk", "asks"] (sp_need_asks K) := by
  refine F.ok sc_need_asks (fun vs H Q E h => ?_) (fun cdv A outer s H vs Q E hr h => ?_)
  · obtain ⟨v, u, d, l, rfl, _⟩ := h
    rfl
  · obtain ⟨v, u, d, l, rfl, hd, ha, g, q⟩ := h
    obtain ⟨a, rfl, hT⟩ := dp_disk hd
    obtain ⟨b, xs, rfl, hL, hlen, hat⟩ := dp_asks ha
    have nd := sc_need_asks.nd
    refine ⟨_, pss_one (ps_for PassesOwn.never rfl (pi_range1 rfl mr (pa_cons (pe_callB call_len_seq (by rfl) ml PySem.boot_len (pa_cons (pv 1) pa_nil)) pa_nil)) (pg_name (i := 2) nd rfl (.inl rfl))
      (pss_cons (ps_asg (pe_ix ix_list (pv 1) (pv 2) (fun _ _ => rfl)) (pg_tup rfl (pgs_cons (pg_name (i := 3) nd rfl (.inl rfl)) (pgs_cons (pg_name (i := 4) nd rfl (.inl rfl)) (pgs_cons (pg_name (i := 5) nd rfl (.inl rfl)) pgs_nil)))))
      (pss_cons (ps_set (i := 6) nd rfl (.inl rfl) (pe_and (pe_cmpR op_lt (pv 2) (pe_glob rfl m1 rel_int) (nomark _)) (pe_one (pe_chain op_le op_le pe_int (pv 3) (pe_glob rfl m2 rel_int)))))
      (pss_one (ps_if (PW.pt (pw_or (pt_not (pt_val (pv 6))) (pw_or (pt_not (pt_chain op_le op_lt pe_int (pv 4) (pe_ix ix_tup (pv 0) pe_int (fun _ _ => rfl)))) (pw_or1 (pt_not (pt_chain op_le op_lt pe_int (pv 5) (pe_ix ix_tup (pv 0) pe_int (fun _ _ => rfl)))))))) (pss_one ps_never) pss_nil))))), ?_⟩
    have h40 := g.len
    refine ⟨_, rfl, b, xs, rfl, .inl hL, _, rfl, by rw [hlen]; omega, by rw [hlen]; omega, ?_⟩
    refine for_range (lo := 0) (n := xs.length) (fun i σ H' => H' = H ∧ ∃ v2 v3 v4 v5 v6, σ = [some (.ref a), some (.ref b), v2, v3, v4, v5, v6]) ⟨rfl, none, none, none, none, none, rfl⟩ ?_ ?_
    · rintro i σ H' hi ⟨rfl, v2, v3, v4, v5, v6, rfl⟩
      obtain ⟨k, hk⟩ : ∃ k, l[i]? = some k := ⟨_, List.getElem?_eq_getElem (by omega)⟩
      obtain ⟨p, hp, hpT, _⟩ := hat i k hk
      have ga := g.at hk
      refine ⟨_, rfl, _, rfl, b, xs, (i : Int), .ref p, rfl, by rw [Int.zero_add], hL, atI_nat hp, ?_⟩
      refine ⟨p, _, rfl, hpT, rfl, _, _, rfl, _, _, rfl, _, _, rfl, rfl, ?_⟩
      refine ⟨_, rfl, _, _, rfl, rfl, _, rfl, ifd_t (by omega) ?_⟩
      refine ⟨_, rfl, _, _, rfl, rfl, _, rfl, ifd_t ga.c1 ⟨_, _, rfl, rfl, ?_⟩⟩
      refine ⟨_, rfl, _, rfl, ifnd_t ga.c2 ?_⟩
      refine ⟨_, rfl, _, _, rfl, rfl, _, rfl, ifd_t ga.t1 ⟨_, rfl, a, _, 0, _, rfl, rfl, hT, atI_nat (j := 0) rfl, _, _, rfl, rfl, _, rfl, ifnd_t ga.t2 ?_⟩⟩
      refine ⟨_, rfl, _, _, rfl, rfl, _, rfl, ifd_t ga.s1 ⟨_, rfl, a, _, 1, _, rfl, rfl, hT, atI_nat (j := 1) rfl, _, _, rfl, rfl, _, rfl, ifnd_t ga.s2 ?_⟩⟩
      exact ⟨rfl, _, _, _, _, _, rfl⟩
    · rintro σ H' ⟨rfl, _⟩
      exact q
end
/-! ### served -/
abbrev s_served : Stmt := top 13
def sp_served (K : PySem.W.Frag) : Sp := fun vs H Q _ => ∃ (v u : V) (d : Disk) (now here : Int) (a : Ask), vs = [v, .int now, .int here, u] ∧ Dp K H v (dDisk d) ∧ Dp K H u (dAsk a) ∧ GoodDisk d ∧ Q (.int (serve d now here a)) H
theorem sc_served : FnScope ["disk", "now", "here", "ask", "come", "track", "sector", "there"] ["disk", "now", "here", "ask"] (defScope s_served) := ⟨rfl, rfl, rfl, by decide +kernel, rfl, by decide +kernel, by decide +kernel⟩
section
variable {P : Program} {w : World} {K : PySem.W.Frag} {mg : Str → Option Value} {base : Heap}
theorem ok_served {f : Addr} {fd : FuncData} (F : Fun K "served" "served" s_served f fd) (mm : mg "max" = none) (ma : mg "abs" = none) : FnOk P w K mg base CX0 1 f fd ["disk", "now", "here", "ask"] (sp_served K) := by
  refine F.ok sc_served (fun vs H Q E h => ?_) (fun cdv A outer s H vs Q E hr h => ?_)
  · obtain ⟨v, u, d, now, here, a, rfl, _⟩ := h
    rfl
  · obtain ⟨v, u, d, now, here, ask, rfl, hd, hk, g, q⟩ := h
    obtain ⟨a, rfl, hT⟩ := dp_disk hd
    obtain ⟨b, rfl, hA⟩ := dp_tints hk
    have nd := sc_served.nd
    refine ⟨_, pss_cons (ps_asg (pv 3) (pg_tup rfl (pgs_cons (pg_name (i := 4) nd rfl (.inl rfl)) (pgs_cons (pg_name (i := 5) nd rfl (.inl rfl)) (pgs_cons (pg_name (i := 6) nd rfl (.inl rfl)) pgs_nil)))))
      (pss_cons (ps_set (i := 7) nd rfl (.inl rfl) (pe_op op_add (pe_callB (call_max2 rfl) (by rfl) mm (by decide +kernel) (pa_cons (pv 1) (pa_cons (pv 4) pa_nil))) (pe_op op_mul (pe_callB call_abs (by rfl) ma (by decide +kernel) (pa_cons (pe_op op_sub (pv 5) (pv 2)) pa_nil)) (pe_ix ix_tup (pv 0) pe_int (fun _ _ => rfl)))))
      (pss_one (ps_ret (pe_op op_add (pe_op op_add (pv 7) (pe_op op_mod (pe_op op_sub (pv 6) (pv 7)) (pe_ix ix_tup (pv 0) pe_int (fun _ _ => rfl)))) pe_int)))), ?_⟩
    refine ⟨_, rfl, b, _, rfl, hA, rfl, _, _, rfl, _, _, rfl, _, _, rfl, rfl, ?_⟩
    refine ⟨_, rfl, _, rfl, _, _, rfl, _, rfl, _, rfl, _, _, rfl, rfl, _, rfl, _, rfl, a, _, 2, _, rfl, rfl, hT, atI_nat (j := 2) rfl, _, _, rfl, rfl, .inr ⟨by have := g.p1; omega, by have := g.p2; omega⟩, _, _, rfl, rfl, ?_⟩
    refine ⟨_, rfl, _, rfl, _, rfl, _, _, rfl, rfl, _, rfl, a, _, 1, _, rfl, rfl, hT, atI_nat (j := 1) rfl, _, _, rfl, rfl, (by have := g.s1; show (0 : Int) < d.sc; omega), _, _, rfl, rfl, _, _, rfl, rfl, ?_⟩
    exact q
end
end Ag

namespace Ag
open PySem PySem.Spec PyProof.Rows L2
/-! ### served_in -/
abbrev s_served_in : Stmt := top 15
def sp_served_in (K : PySem.W.Frag) : Sp := fun vs H Q _ => ∃ (v u o : V) (d : Disk) (l : List Ask) (os : List Nat), vs = [v, u, o] ∧ Dp K H v (dDisk d) ∧ Dp K H u (dAsks l) ∧ Dp K H o (.list ((nints os).map PyData.int)) ∧ GoodDisk d ∧ (∀ i ∈ os, i < l.length) ∧ os.length ≤ 1000 ∧
  ∀ (H' : Hp) (p : Addr) (xs : List V), Same H H' → H p = none → H' p = some (.lst xs) → DpAll K (fr H H' p) xs ((rowsOf d l 0 d.he os).map dRow) → Q (.ref p) H'
theorem sc_served_in : FnScope ["disk", "asks", "order", "now", "here", "found", "number"] ["disk", "asks", "order"] (defScope s_served_in) := ⟨rfl, rfl, rfl, by decide +kernel, rfl, by decide +kernel, by decide +kernel⟩
section
variable {P : Program} {w : World} {K : PySem.W.Frag} {mg : Str → Option Value} {base : Heap}
theorem ok_served_in {f fS : Addr} {fd fdS : FuncData} (F : Fun K "served_in" "served_in" s_served_in f fd) (GS : FnOk P w K mg base CX0 1 fS fdS ["disk", "now", "here", "ask"] (sp_served K)) (gS : mg "served" = some (.ref fS)) (kS : PySem.W.keepIn K (.ref fS) = true) (bS : Binds K fdS ["disk", "now", "here", "ask"] []) :
    FnOk P w K mg base CX0 2 f fd ["disk", "asks", "order"] (sp_served_in K) := by
  refine F.ok sc_served_in (fun vs H Q E h => ?_) (fun cdv A outer s H vs Q E hr h => ?_)
  · obtain ⟨v, u, o, d, l, os, rfl, _⟩ := h
    rfl
  · obtain ⟨v, u, o, d, l, os, rfl, hd, ha, ho, g, hin, hlen, q⟩ := h
    obtain ⟨a, rfl, hT⟩ := dp_disk hd
    obtain ⟨b, xs, rfl, hL, hxl, hat⟩ := dp_asks ha
    obtain ⟨c, rfl, hO⟩ := dp_ints ho
    have nd := sc_served_in.nd
    have hr1 : Room 1 _ := hr
    refine ⟨_, pss_cons (ps_set (i := 3) nd rfl (.inl rfl) pe_int)
      (pss_cons (ps_set (i := 4) nd rfl (.inl rfl) (pe_ix ix_tup (pv 0) pe_int (fun _ _ => rfl)))
      (pss_cons (ps_set (i := 5) nd rfl (.inl rfl) (pe_lst pa_nil))
      (pss_cons (ps_for PassesOwn.never rfl (pi_list (pv 2)) (pg_name (i := 6) nd rfl (.inl rfl))
        (pss_cons (ps_set (i := 3) nd rfl (.inl rfl) (pe_call GS hr1 rfl gS kS bS .nil pass0 (pa_cons (pv 0) (pa_cons (pv 3) (pa_cons (pv 4) (pa_cons (pe_ix ix_list (pv 1) (pv 6) (fun _ _ => rfl)) pa_nil))))))
        (pss_cons (ps_set (i := 4) nd rfl (.inl rfl) (pe_ix ix_tup (pe_ix ix_list (pv 1) (pv 6) (fun _ _ => rfl)) pe_int (fun _ _ => rfl)))
        (pss_one (ps_expr (pe_bm PySem.F.plainAttrs_list PySem.F.slot_list_append PySem.F.type_list_append mt_append (pv 5) (pa_cons (pe_tup (pa_cons (pv 6) (pa_cons (pv 3) pa_nil))) pa_nil)))))))
      (pss_one (ps_ret (pv 5)))))), ?_⟩
    refine ⟨_, rfl, a, _, 3, _, rfl, rfl, hT, atI_nat (j := 3) rfl, Nat.zero_le _, fun F hF => ?_⟩
    have s0 : Same H (upd H F (.lst [])) := same_new hF
    refine ⟨_, rfl, c, rfl, ⟨_, s0.seq hO⟩, for_list (K := K) (a := c) (xs := (nints os).map V.int)
      (fun i σ H' => Same H H' ∧ ∃ ys v6, σ = [some (.ref a), some (.ref b), some (.ref c), some (.int (endOf d l 0 d.he (os.take i)).1), some (.int (endOf d l 0 d.he (os.take i)).2), some (.ref F), v6] ∧
        H' F = some (.lst ys) ∧ ys.length = i ∧ DpAll K (fr H H' F) ys ((rowsOf d l 0 d.he (os.take i)).map dRow))
      ⟨s0, [], none, rfl, upd_same, rfl, .nil⟩ (fun i σ H' _ ⟨s1, _⟩ => s1.seq hO) ?_ ?_⟩
    · rintro i y σ H' hi ⟨s1, ys, v6, rfl, eF, hyl, hda⟩
      obtain ⟨n, hn, rfl⟩ := nints_at hi
      obtain ⟨k, hk⟩ : ∃ k, l[n]? = some k := ⟨_, List.getElem?_eq_getElem (hin n (List.mem_of_getElem? hn))⟩
      obtain ⟨p, hp, hpT, hpd⟩ := hat n k hk
      have ek : l.getD n (0, 0, 0) = k := getD_of hk
      have hlt : i < os.length := (List.getElem?_eq_some_iff.mp hn).1
      refine ⟨_, rfl, _, rfl, _, rfl, _, rfl, _, rfl, b, xs, (n : Int), .ref p, rfl, rfl, s1.seq hL, atI_nat hp, ?_⟩
      refine ⟨.ref a, .ref p, d, _, _, k, rfl, dp_same s1 hd, dp_same s1 hpd, g, ?_⟩
      refine ⟨_, rfl, _, rfl, b, xs, (n : Int), .ref p, rfl, rfl, s1.seq hL, atI_nat hp, p, _, 1, _, rfl, rfl, same_sqt s1 hpT, atI_nat (j := 1) rfl, ?_⟩
      refine ⟨_, rfl, .inl ⟨rfl, _, SqL.of eF⟩, _, rfl, _, rfl, (by show 2 ≤ sizeLine; decide), fun t ht => ?_⟩
      have nFt : F ≠ t := ne_of_none eF ht
      have hHt : H t = none := s1.free ht
      refine ⟨F, ys, .ref t, rfl, rfl, by rw [upd_ne nFt]; exact eF, small1000 (by omega), ?_⟩
      refine ⟨same_upd (same_upd s1 hHt) hF, ys ++ [.ref t], some (.int (n : Int)), ?_, upd_same, by rw [List.length_append, hyl]; rfl, ?_⟩
      · rw [take_more hn, endOf_snoc, ek]
        rfl
      · rw [take_more hn, rowsOf_snoc, ek, List.map_append]
        refine dpa_snoc (dpa_same (fr_step (sb_upd (sb_new sb_refl ht))) hda) ?_
        exact dp_tints_of (ns := [(n : Int), serve d (endOf d l 0 d.he (os.take i)).1 (endOf d l 0 d.he (os.take i)).2 k]) (.inl (.inl (fr_at nFt.symm hHt (by rw [upd_ne nFt.symm, upd_same]; rfl))))
    · rintro σ H' ⟨s1, ys, v6, rfl, eF, hyl, hda⟩
      have e : os.take ((nints os).map V.int).length = os := List.take_of_length_le (by rw [List.length_map, nints_len]; exact Nat.le_refl _)
      rw [e] at hda
      exact ⟨_, rfl, q H' F ys s1 hF eF hda⟩
end
/-! ### costs_of -/
abbrev s_costs_of : Stmt := top 16
def sp_costs_of (K : PySem.W.Frag) : Sp := fun vs H Q _ => ∃ (v u o : V) (d : Disk) (l : List Ask) (rs : List (Nat × Int)), vs = [v, u, o] ∧ Dp K H v (dDisk d) ∧ Dp K H u (dAsks l) ∧ Dp K H o (.list (rs.map dRow)) ∧ (∀ r ∈ rs, r.1 < l.length) ∧ rs.length ≤ 1000 ∧
  ∀ (H' : Hp) (p : Addr), Same H H' → H p = none → H' p = some (.tup ([(costsOf d l rs).1, (costsOf d l rs).2.1, (costsOf d l rs).2.2].map V.int)) → Q (.ref p) H'
theorem sc_costs_of : FnScope ["disk", "asks", "rows", "way", "here", "waits", "number", "done"] ["disk", "asks", "rows"] (defScope s_costs_of) := ⟨rfl, rfl, rfl, by decide +kernel, rfl, by decide +kernel, by decide +kernel⟩
section
variable {P : Program} {w : World} {K : PySem.W.Frag} {mg : Str → Option Value} {base : Heap}
theorem ok_costs_of {f : Addr} {fd : FuncData} (F : Fun K "costs_of" "costs_of" s_costs_of f fd) (ma : mg "abs" = none) (mm : mg "max" = none) (ms : mg "sum" = none) :
    FnOk P w K mg base CX0 1 f fd ["disk", "asks", "rows"] (sp_costs_of K) := by
  refine F.ok sc_costs_of (fun vs H Q E h => ?_) (fun cdv A outer s H vs Q E hr h => ?_)
  · obtain ⟨v, u, o, d, l, rs, rfl, _⟩ := h
    rfl
  · obtain ⟨v, u, o, d, l, rs, rfl, hd, ha, ho, hin, hlen, q⟩ := h
    obtain ⟨a, rfl, hT⟩ := dp_disk hd
    obtain ⟨b, xs, rfl, hL, hxl, hat⟩ := dp_asks ha
    obtain ⟨c, zs, rfl, hO, hzs⟩ := dp_list ho
    have hzl : zs.length = rs.length := by rw [dpa_len hzs, List.length_map]
    have nd := sc_costs_of.nd
    refine ⟨_, pss_cons (ps_set (i := 3) nd rfl (.inl rfl) pe_int)
      (pss_cons (ps_set (i := 4) nd rfl (.inl rfl) (pe_ix ix_tup (pv 0) pe_int (fun _ _ => rfl)))
      (pss_cons (ps_set (i := 5) nd rfl (.inl rfl) (pe_lst pa_nil))
      (pss_cons (ps_for PassesOwn.never rfl (pi_list (pv 2)) (pg_tup rfl (pgs_cons (pg_name (i := 6) nd rfl (.inl rfl)) (pgs_cons (pg_name (i := 7) nd rfl (.inl rfl)) pgs_nil)))
        (pss_cons (ps_set (i := 3) nd rfl (.inl rfl) (pe_op op_add (pv 3) (pe_callB call_abs (by rfl) ma (by decide +kernel) (pa_cons (pe_op op_sub (pe_ix ix_tup (pe_ix ix_list (pv 1) (pv 6) (fun _ _ => rfl)) pe_int (fun _ _ => rfl)) (pv 4)) pa_nil))))
        (pss_cons (ps_set (i := 4) nd rfl (.inl rfl) (pe_ix ix_tup (pe_ix ix_list (pv 1) (pv 6) (fun _ _ => rfl)) pe_int (fun _ _ => rfl)))
        (pss_one (ps_expr (pe_bm PySem.F.plainAttrs_list PySem.F.slot_list_append PySem.F.type_list_append mt_append (pv 5) (pa_cons (pe_op op_sub (pv 7) (pe_ix ix_tup (pe_ix ix_list (pv 1) (pv 6) (fun _ _ => rfl)) pe_int (fun _ _ => rfl))) pa_nil)))))))
      (pss_one (ps_ret (pe_tup (pa_cons (pv 3) (pa_cons (pe_callBK (cr_maxD0 rfl (hu_of hr)) rfl mm (by decide +kernel) (pa_cons (pv 5) pa_nil) (pk_cons pe_int pk_nil)) (pa_cons (pe_callB (cr_sum rfl) (by rfl) ms (by decide +kernel) (pa_cons (pv 5) pa_nil)) pa_nil))))))))), ?_⟩
    refine ⟨_, rfl, a, _, 3, _, rfl, rfl, hT, atI_nat (j := 3) rfl, Nat.zero_le _, fun W hW => ?_⟩
    have s0 : Same H (upd H W (.lst [])) := same_new hW
    refine ⟨_, rfl, c, rfl, ⟨_, s0.seq hO⟩, for_list (K := K) (a := c) (xs := zs)
      (fun i σ H' => Same H H' ∧ ∃ v6 v7, σ = [some (.ref a), some (.ref b), some (.ref c), some (.int (wayOf l d.he (rs.take i))), some (.int (hereOf l d.he (rs.take i))), some (.ref W), v6, v7] ∧
        H' W = some (.lst ((waitsOf l (rs.take i)).map V.int)))
      ⟨s0, none, none, rfl, upd_same⟩ (fun i σ H' _ ⟨s1, _⟩ => s1.seq hO) ?_ ?_⟩
    · rintro i y σ H' hi ⟨s1, v6, v7, rfl, eW⟩
      have hlt : i < rs.length := by
        have := (List.getElem?_eq_some_iff.mp hi).1
        omega
      obtain ⟨⟨n, z⟩, hn⟩ : ∃ r, rs[i]? = some r := ⟨_, List.getElem?_eq_getElem hlt⟩
      obtain ⟨v, hv, hvd⟩ := dpa_get (i := i) (d := dRow (n, z)) hzs (by rw [List.getElem?_map, hn]; rfl)
      rw [hi] at hv
      cases hv
      obtain ⟨t, rfl, htT⟩ := dp_tints hvd
      obtain ⟨k, hk⟩ : ∃ k, l[n]? = some k := ⟨_, List.getElem?_eq_getElem (hin (n, z) (List.mem_of_getElem? hn))⟩
      obtain ⟨p, hp, hpT, hpd⟩ := hat n k hk
      have ek : l.getD n (0, 0, 0) = k := getD_of hk
      have hix : ∀ {H'' : Hp}, Same H H'' → SqL K H'' b xs := fun s => s.seq hL
      refine ⟨t, _, rfl, same_sqt s1 htT, rfl, _, _, rfl, _, _, rfl, rfl, ?_⟩
      refine ⟨_, rfl, _, rfl, _, rfl, b, xs, (n : Int), .ref p, rfl, rfl, s1.seq hL, atI_nat hp, p, _, 1, _, rfl, rfl, same_sqt s1 hpT, atI_nat (j := 1) rfl, _, rfl, _, _, rfl, rfl, _, rfl, _, _, rfl, rfl, ?_⟩
      refine ⟨_, rfl, _, rfl, b, xs, (n : Int), .ref p, rfl, rfl, s1.seq hL, atI_nat hp, p, _, 1, _, rfl, rfl, same_sqt s1 hpT, atI_nat (j := 1) rfl, ?_⟩
      refine ⟨_, rfl, .inl ⟨rfl, _, SqL.of eW⟩, _, rfl, _, rfl, _, rfl, b, xs, (n : Int), .ref p, rfl, rfl, s1.seq hL, atI_nat hp, p, _, 0, _, rfl, rfl, same_sqt s1 hpT, atI_nat (j := 0) rfl, _, _, rfl, rfl, W, _, _, rfl, rfl, eW, small1000 (by rw [List.length_map]; unfold waitsOf; rw [List.length_map, List.length_take]; omega), ?_⟩
      refine ⟨same_upd s1 hW, some (.int (n : Int)), some (.int z), ?_, ?_⟩
      · rw [take_more hn, wayOf_snoc, hereOf_snoc]
        show _ = [_, _, _, some (V.int (_ + iabs ((l.getD n (0, 0, 0)).2.1 - _))), some (V.int (l.getD n (0, 0, 0)).2.1), _, _, _]
        rw [ek]
        rfl
      · rw [upd_same, take_more hn]
        unfold waitsOf
        rw [List.map_append, List.map_append]
        show _ = some (HO.lst (_ ++ [V.int (z - (l.getD n (0, 0, 0)).1)]))
        rw [ek]
    · rintro σ H' ⟨s1, v6, v7, rfl, eW⟩
      have e : rs.take zs.length = rs := List.take_of_length_le (by omega)
      rw [e] at eW
      rw [e]
      refine ⟨_, rfl, _, rfl, W, _, rfl, rfl, SqL.of eW, _, rfl, W, _, rfl, SqL.of eW, (by show 3 ≤ sizeLine; decide), fun p hp => ?_⟩
      exact q _ p (same_upd s1 (s1.free hp)) (s1.free hp) upd_same
end
/-! ### need_order -/
abbrev s_need_order : Stmt := top 17
def sp_need_order (K : PySem.W.Frag) : Sp := fun vs H Q _ => ∃ (u o : V) (l : List Ask) (os : List Nat), vs = [u, o] ∧ Dp K H u (dAsks l) ∧ Dp K H o (.list ((nints os).map PyData.int)) ∧ l.length ≤ 1000 ∧ os.Perm (List.range l.length) ∧
  ∀ H' : Hp, Same H H' → Q .non H'
theorem sc_need_order : FnScope ["asks", "order"] ["asks", "order"] (defScope s_need_order) := ⟨rfl, rfl, rfl, by decide +kernel, rfl, by decide +kernel, by decide +kernel⟩
section
variable {P : Program} {w : World} {K : PySem.W.Frag} {mg : Str → Option Value} {base : Heap}
theorem ok_need_order {f : Addr} {fd : FuncData} (F : Fun K "need_order" "need_order" s_need_order f fd) (ms : mg "sorted" = none) (ml : mg "list" = none) (mr : mg "range" = none) (mn : mg "len" = none) :
    FnOk P w K mg base CX0 1 f fd ["asks", "order"] (sp_need_order K) := by
  refine F.ok sc_need_order (fun vs H Q E h => ?_) (fun cdv A outer s H vs Q E hr h => ?_)
  · obtain ⟨u, o, l, os, rfl, _⟩ := h
    rfl
  · obtain ⟨u, o, l, os, rfl, ha, ho, hlen, hperm, q⟩ := h
    obtain ⟨b, xs, rfl, hL, hxl, hat⟩ := dp_asks ha
    obtain ⟨c, rfl, hO⟩ := dp_ints ho
    refine ⟨_, pss_one (ps_if (pt_cmpR (op_neD hr.units) (pe_callB cr_sortedI (by rfl) ms (by decide +kernel) (pa_cons (pv 1) pa_nil)) (pe_listRg rfl rfl ml (prg_1 rfl mr (pe_callB call_len_seq (by rfl) mn PySem.boot_len (pa_cons (pv 0) pa_nil)))) (nomark _))
      (pss_one ps_never) pss_nil), ?_⟩
    refine ⟨_, rfl, c, _, rfl, hO, fun ns' p perm rising hp => ?_⟩
    have en := rising_range perm hperm rising
    subst en
    have s1 : Same H (upd H p (.lst ((nints (List.range l.length)).map V.int))) := same_new hp
    refine ⟨_, rfl, b, xs, rfl, .inl (s1.seq hL), _, rfl, RgOk.of_le (by decide) (by rw [hxl]; omega) (by decide) (by omega), fun r hr => ?_⟩
    have s2 := same_new (o := .lst (rgV 0 (xs.length : Int))) hr
    have e2 : rgV 0 (xs.length : Int) = (nints (List.range l.length)).map V.int := by rw [hxl]; exact rg_nints _
    refine ⟨.list ((nints (List.range l.length)).map PyData.int), .list ((nints (List.range l.length)).map PyData.int), dp_ints_of (.inl (.inl (s2 _ _ upd_same))), dp_ints_of (.inl (.inl (by rw [upd_same, e2]))), shaped_ints _, shaped_ints _, _, rfl, ?_⟩
    rw [SeqAt.eqv_refl _ (SeqAt.canLay_of_shaped (shaped_ints _))]
    exact iteF (q _ (s1.trans s2))
end
/-! ### by_order -/
abbrev s_by_order : Stmt := top 18
/-- a result (rows, costs), all new: a tuple at p of the list at c and the tuple at t -/
structure ResAt (K : PySem.W.Frag) (H H' : Hp) (p c t : Addr) (xs : List V) (rs : List (Nat × Int)) (k : Int × Int × Int) : Prop where
  same : Same H H'
  p0 : H p = none
  c0 : H c = none
  t0 : H t = none
  hp : H' p = some (.tup [.ref c, .ref t])
  hc : H' c = some (.lst xs)
  ht : H' t = some (.tup ([k.1, k.2.1, k.2.2].map V.int))
  rows : DpAll K (fr H H' c) xs (rs.map dRow)
theorem ResAt.dp {K : PySem.W.Frag} {H H' : Hp} {p c t : Addr} {xs : List V} {rs : List (Nat × Int)} {k : Int × Int × Int} (r : ResAt K H H' p c t xs rs k) : Dp K (nw H H') (.ref p) (dRes rs k) :=
  .tup (.inl (.inl (by rw [nw_none r.p0]; exact r.hp))) (.cons (.lst (.inl (.inl (by rw [nw_none r.c0]; exact r.hc))) (dpa_same fr_nw r.rows)) (.cons (dp_tints_of (.inl (.inl (by rw [nw_none r.t0]; exact r.ht)))) .nil))
def sp_by_order (K : PySem.W.Frag) : Sp := fun vs H Q _ => ∃ (v u o : V) (d : Disk) (l : List Ask) (os : List Nat), vs = [v, u, o] ∧ Dp K H v (dDisk d) ∧ Dp K H u (dAsks l) ∧ Dp K H o (.list ((nints os).map PyData.int)) ∧ GoodDisk d ∧ GoodAsks d l ∧ os.Perm (List.range l.length) ∧
  ∀ (H' : Hp) (p c t : Addr) (xs : List V), ResAt K H H' p c t xs (rowsOf d l 0 d.he os) (costsOf d l (rowsOf d l 0 d.he os)) → Q (.ref p) H'
theorem sc_by_order : FnScope ["disk", "asks", "order", "rows"] ["disk", "asks", "order"] (defScope s_by_order) := ⟨rfl, rfl, rfl, by decide +kernel, rfl, by decide +kernel, by decide +kernel⟩
section
variable {P : Program} {w : World} {K : PySem.W.Frag} {mg : Str → Option Value} {base : Heap}
theorem ok_by_order {f f1 f2 f3 f4 f5 : Addr} {fd fd1 fd2 fd3 fd4 fd5 : FuncData} (F : Fun K "by_order" "by_order" s_by_order f fd)
    (G1 : FnOk P w K mg base CX0 1 f1 fd1 ["disk"] (sp_need_disk K)) (g1 : mg "need_disk" = some (.ref f1)) (k1 : PySem.W.keepIn K (.ref f1) = true) (b1 : Binds K fd1 ["disk"] [])
    (G2 : FnOk P w K mg base CX0 1 f2 fd2 ["disk", "asks"] (sp_need_asks K)) (g2 : mg "need_asks" = some (.ref f2)) (k2 : PySem.W.keepIn K (.ref f2) = true) (b2 : Binds K fd2 ["disk", "asks"] [])
    (G3 : FnOk P w K mg base CX0 1 f3 fd3 ["asks", "order"] (sp_need_order K)) (g3 : mg "need_order" = some (.ref f3)) (k3 : PySem.W.keepIn K (.ref f3) = true) (b3 : Binds K fd3 ["asks", "order"] [])
    (G4 : FnOk P w K mg base CX0 2 f4 fd4 ["disk", "asks", "order"] (sp_served_in K)) (g4 : mg "served_in" = some (.ref f4)) (k4 : PySem.W.keepIn K (.ref f4) = true) (b4 : Binds K fd4 ["disk", "asks", "order"] [])
    (G5 : FnOk P w K mg base CX0 1 f5 fd5 ["disk", "asks", "rows"] (sp_costs_of K)) (g5 : mg "costs_of" = some (.ref f5)) (k5 : PySem.W.keepIn K (.ref f5) = true) (b5 : Binds K fd5 ["disk", "asks", "rows"] []) :
    FnOk P w K mg base CX0 3 f fd ["disk", "asks", "order"] (sp_by_order K) := by
  refine F.ok sc_by_order (fun vs H Q E h => ?_) (fun cdv A outer s H vs Q E hr h => ?_)
  · obtain ⟨v, u, o, d, l, os, rfl, _⟩ := h
    rfl
  · obtain ⟨v, u, o, d, l, os, rfl, hd, ha, ho, g, ga, hperm, q⟩ := h
    have nd := sc_by_order.nd
    have hr1 : Room 1 _ := hr.mono (by decide)
    have hl40 := ga.len
    have hmem : ∀ i ∈ os, i < l.length := fun i hi => List.mem_range.mp (hperm.mem_iff.mp hi)
    have hol : os.length = l.length := by rw [hperm.length_eq, List.length_range]
    refine ⟨_, pss_cons (ps_expr (pe_call G1 hr1 rfl g1 k1 b1 .nil pass0 (pa_cons (pv 0) pa_nil)))
      (pss_cons (ps_expr (pe_call G2 hr1 rfl g2 k2 b2 .nil pass0 (pa_cons (pv 0) (pa_cons (pv 1) pa_nil))))
      (pss_cons (ps_expr (pe_call G3 hr1 rfl g3 k3 b3 .nil pass0 (pa_cons (pv 1) (pa_cons (pv 2) pa_nil))))
      (pss_cons (ps_set (i := 3) nd rfl (.inl rfl) (pe_call G4 (hr.mono (by decide)) rfl g4 k4 b4 .nil pass0 (pa_cons (pv 0) (pa_cons (pv 1) (pa_cons (pv 2) pa_nil)))))
      (pss_one (ps_ret (pe_tup (pa_cons (pv 3) (pa_cons (pe_call G5 hr1 rfl g5 k5 b5 .nil pass0 (pa_cons (pv 0) (pa_cons (pv 1) (pa_cons (pv 3) pa_nil)))) pa_nil)))))))), ?_⟩
    refine ⟨_, rfl, v, d, rfl, hd, g, ?_⟩
    refine ⟨_, rfl, _, rfl, v, u, d, l, rfl, hd, ha, ga, ?_⟩
    refine ⟨_, rfl, _, rfl, u, o, l, os, rfl, ha, ho, by omega, hperm, fun H1 s1 => ?_⟩
    refine ⟨_, rfl, _, rfl, _, rfl, v, u, o, d, l, os, rfl, dp_same s1 hd, dp_same s1 ha, dp_same s1 ho, g, hmem, by omega, fun H2 c xs s2 hc0 hc hrows => ?_⟩
    have s12 := s1.trans s2
    refine ⟨_, rfl, _, rfl, _, rfl, _, rfl, v, u, .ref c, d, l, rowsOf d l 0 d.he os, rfl, dp_same s12 hd, dp_same s12 ha, .lst (.inl (.inl hc)) (dpa_same fr_sub hrows), ?_, by rw [rowsOf_len]; omega, fun H3 t s3 ht0 ht => ?_⟩
    · intro r hr
      have : r.1 ∈ (rowsOf d l 0 d.he os).map (·.1) := List.mem_map_of_mem hr
      rw [rowsOf_fst] at this
      exact hmem _ this
    · refine ⟨(by show 2 ≤ sizeLine; decide), fun p hp => ?_⟩
      have s4 : Same H3 (upd H3 p (.tup [.ref c, .ref t])) := same_new hp
      have s13 := s12.trans s3
      refine q _ p c t xs ⟨s13.trans s4, s13.free hp, s1.free hc0, s12.free ht0, upd_same, s4 _ _ (s3 _ _ hc), s4 _ _ ht, ?_⟩
      refine dpa_same ?_ hrows
      refine Same.trans (H1 := fr H H2 c) (fun b x e => ?_) (fr_step (sb_of (s3.trans s4)))
      unfold fr at e ⊢
      exact wo_mono (nw_earlier s1) b x e
end
end Ag

namespace Ag
open PySem PySem.Spec PyProof.Rows L2
/-! ### the law's draws: any number in range -/
abbrev s_l_taken : Stmt := top 20
def sp_l_taken (K : PySem.W.Frag) : Sp := fun vs H Q _ => ∃ (r : Addr) (many : Int), vs = [.ref r, .int many] ∧ RowAt K H r ∧ 0 < many ∧ ∀ (H' : Hp) (v : Int), 0 ≤ v → v < many → RowAt K H' r → SameBut r H H' → Q (.int v) H'
theorem sc_l_taken : FnScope ["_law_row", "_law_many", "_law_cell"] ["_law_row", "_law_many"] (defScope s_l_taken) := ⟨rfl, rfl, rfl, by decide +kernel, rfl, by decide +kernel, by decide +kernel⟩
section
variable {P : Program} {w : World} {K : PySem.W.Frag} {mg : Str → Option Value} {base : Heap}
theorem ok_l_taken {f : Addr} {fd : FuncData} (F : Fun K "_law_taken" "_law_taken" s_l_taken f fd) (ml : mg "len" = none) : FnOk P w K mg base CX0 1 f fd ["_law_row", "_law_many"] (sp_l_taken K) := by
  refine F.ok sc_l_taken (fun vs H Q E h => ?_) (fun cdv A outer s H vs Q E hr h => ?_)
  · obtain ⟨r, many, rfl, _⟩ := h
    rfl
  · obtain ⟨r, many, rfl, ⟨a, ns, pos, mix, p0, hR, hS⟩, hm, q⟩ := h
    have nd := sc_l_taken.nd
    refine ⟨_, pss_cons (ps_asg (pe_op op_add (pe_ix ix_list (pv 0) pe_int (fun _ _ => rfl)) pe_int) (pg_sub (pv 0) pe_int set_list))
      (pss_cons (ps_if (pt_cmpR op_gt (pe_ix ix_list (pv 0) pe_int (fun _ _ => rfl)) (pe_callB call_len_seq (by rfl) ml PySem.boot_len (pa_cons (pe_ix ix_list (pv 0) pe_int (fun _ _ => rfl)) pa_nil)) (nomark _))
        (pss_cons (ps_asg (pe_op op_mod (pe_op op_add (pe_op op_mul (pe_ix ix_list (pv 0) pe_int (fun _ _ => rfl)) pe_int) pe_int) pe_int) (pg_sub (pv 0) pe_int set_list))
          (pss_one (ps_ret (pe_op op_mod (pe_op op_fdiv (pe_ix ix_list (pv 0) pe_int (fun _ _ => rfl)) pe_int) (pv 1))))) pss_nil)
      (pss_cons (ps_set (i := 2) nd rfl (.inl rfl) (pe_ix ix_list (pe_ix ix_list (pv 0) pe_int (fun _ _ => rfl)) (pe_op op_sub (pe_ix ix_list (pv 0) pe_int (fun _ _ => rfl)) pe_int) (fun _ _ => rfl)))
      (pss_cons (ps_asg (pe_op op_mod (pe_op op_add (pe_op op_add (pe_op op_mul (pe_ix ix_list (pv 0) pe_int (fun _ _ => rfl)) pe_int) (pv 2)) pe_int) pe_int) (pg_sub (pv 0) pe_int set_list))
      (pss_one (ps_ret (pe_op op_mod (pv 2) (pv 1))))))), ?_⟩
    refine ⟨_, rfl, r, _, 1, _, rfl, rfl, SqL.of hR, atI_nat (j := 1) rfl, _, _, rfl, rfl, _, rfl, r, _, _, 1, rfl, rfl, hR, rfl, ?_⟩
    have h1 : upd H r (.lst ([V.ref a, .int pos, .int mix].set 1 (.int (pos + 1)))) r = some (.lst [V.ref a, .int (pos + 1), .int mix]) := upd_same
    have hS1 : ScrAt K (upd H r (.lst ([V.ref a, .int pos, .int mix].set 1 (.int (pos + 1))))) a ns := hS.put hR
    have b1 : SameBut r H (upd H r (.lst ([V.ref a, .int pos, .int mix].set 1 (.int (pos + 1))))) := sb_upd sb_refl
    revert h1 hS1 b1
    generalize upd H r (.lst ([V.ref a, .int pos, .int mix].set 1 (.int (pos + 1)))) = H1
    intro h1 hS1 b1
    refine ⟨_, rfl, r, _, 1, _, rfl, rfl, SqL.of h1, atI_nat (j := 1) rfl, _, rfl, r, _, 0, _, rfl, rfl, SqL.of h1, atI_nat (j := 0) rfl, a, _, rfl, .inl hS1.sql, _, _, rfl, rfl, _, rfl, if2d (fun _ => ?_) (fun hle => ?_)⟩
    · refine ⟨_, rfl, r, _, 2, _, rfl, rfl, SqL.of h1, atI_nat (j := 2) rfl, _, _, rfl, rfl, .inr ⟨by decide, by decide⟩, _, _, rfl, rfl, _, _, rfl, rfl, (by show (0 : Int) < 2147483647; decide), _, rfl, r, _, _, 2, rfl, rfl, h1, rfl, ?_⟩
      refine ⟨_, rfl, r, [V.ref a, .int (pos + 1), .int ((mix * 48271 + 11) % 2147483647)], 2, _, rfl, rfl, .inl (.inl upd_same), atI_nat (j := 2) rfl, _, _, rfl, rfl, ⟨by decide, by decide⟩, _, rfl, _, _, rfl, rfl, hm, ?_⟩
      refine q _ _ (Int.emod_nonneg _ (by omega)) (Int.emod_lt_of_pos _ hm) ⟨a, ns, pos + 1, _, by omega, upd_same, hS1.put h1⟩ (sb_upd b1)
    · rw [List.length_map] at hle
      have hlt : pos.toNat < ns.length := by omega
      obtain ⟨z, hz⟩ : ∃ z, ns[pos.toNat]? = some z := ⟨_, List.getElem?_eq_getElem hlt⟩
      refine ⟨_, rfl, r, _, 0, _, rfl, rfl, SqL.of h1, atI_nat (j := 0) rfl, _, rfl, r, _, 1, _, rfl, rfl, SqL.of h1, atI_nat (j := 1) rfl, _, _, rfl, rfl, a, _, _, .int z, rfl, rfl, hS1.sql, at_of (j := pos.toNat) (by omega) (by rw [List.getElem?_map, hz]; rfl), ?_⟩
      refine ⟨_, rfl, r, _, 2, _, rfl, rfl, SqL.of h1, atI_nat (j := 2) rfl, _, _, rfl, rfl, .inr ⟨by decide, by decide⟩, _, rfl, _, _, rfl, rfl, _, _, rfl, rfl, _, _, rfl, rfl, (by show (0 : Int) < 2147483647; decide), _, rfl, r, _, _, 2, rfl, rfl, h1, rfl, ?_⟩
      refine ⟨_, rfl, _, rfl, _, _, rfl, rfl, hm, ?_⟩
      refine q _ _ (Int.emod_nonneg _ (by omega)) (Int.emod_lt_of_pos _ hm) ⟨a, ns, pos + 1, _, by omega, upd_same, hS1.put h1⟩ (sb_upd b1)
end
/-! ### the law's disks: any good one -/
abbrev s_l_disk : Stmt := top 22
def sp_l_disk (K : PySem.W.Frag) : Sp := fun vs H Q _ => ∃ (r : Addr), vs = [.ref r] ∧ RowAt K H r ∧ ∀ (H' : Hp) (p : Addr) (d : Disk), GoodDisk d → RowAt K H' r → SameBut r H H' → p ≠ r → H' p = some (.tup ([d.tr, d.sc, d.pa, d.he].map V.int)) → Q (.ref p) H'
theorem sc_l_disk : FnScope ["_law_row", "_law_tracks", "_law_sectors"] ["_law_row"] (defScope s_l_disk) := ⟨rfl, rfl, rfl, by decide +kernel, rfl, by decide +kernel, by decide +kernel⟩
theorem row_keep {K : PySem.W.Frag} {H H' : Hp} {r p : Addr} {o : HO} (h : RowAt K H r) (e : H p = some o) (n : p ≠ r) (s : SameBut r H H') : H' p = some o := s _ _ n e
section
variable {P : Program} {w : World} {K : PySem.W.Frag} {mg : Str → Option Value} {base : Heap}
theorem ok_l_disk {f fT : Addr} {fd fdT : FuncData} (F : Fun K "_law_disk" "_law_disk" s_l_disk f fd) (GT : FnOk P w K mg base CX0 1 fT fdT ["_law_row", "_law_many"] (sp_l_taken K)) (gT : mg "_law_taken" = some (.ref fT)) (kT : PySem.W.keepIn K (.ref fT) = true) (bT : Binds K fdT ["_law_row", "_law_many"] []) :
    FnOk P w K mg base CX0 2 f fd ["_law_row"] (sp_l_disk K) := by
  refine F.ok sc_l_disk (fun vs H Q E h => ?_) (fun cdv A outer s H vs Q E hr h => ?_)
  · obtain ⟨r, rfl, _⟩ := h
    rfl
  · obtain ⟨r, rfl, hR, q⟩ := h
    have nd := sc_l_disk.nd
    have hr1 : Room 1 _ := hr
    refine ⟨_, pss_cons (ps_set (i := 1) nd rfl (.inl rfl) (pe_op op_add pe_int (pe_call GT hr1 rfl gT kT bT .nil pass0 (pa_cons (pv 0) (pa_cons (pe_ix ix_list (pe_lst (pa_cons pe_int (pa_cons pe_int pa_nil))) (pe_call GT hr1 rfl gT kT bT .nil pass0 (pa_cons (pv 0) (pa_cons pe_int pa_nil))) (fun _ _ => rfl)) pa_nil)))))
      (pss_cons (ps_set (i := 2) nd rfl (.inl rfl) (pe_op op_add pe_int (pe_call GT hr1 rfl gT kT bT .nil pass0 (pa_cons (pv 0) (pa_cons (pe_ix ix_list (pe_lst (pa_cons pe_int (pa_cons pe_int pa_nil))) (pe_call GT hr1 rfl gT kT bT .nil pass0 (pa_cons (pv 0) (pa_cons pe_int pa_nil))) (fun _ _ => rfl)) pa_nil)))))
      (pss_one (ps_ret (pe_tup (pa_cons (pv 1) (pa_cons (pv 2) (pa_cons (pe_op op_add pe_int (pe_call GT hr1 rfl gT kT bT .nil pass0 (pa_cons (pv 0) (pa_cons pe_int pa_nil)))) (pa_cons (pe_call GT hr1 rfl gT kT bT .nil pass0 (pa_cons (pv 0) (pa_cons (pv 1) pa_nil))) pa_nil)))))))), ?_⟩
    refine ⟨_, rfl, (by show 2 ≤ sizeLine; decide), fun L hL => ?_⟩
    have nL := hR.ne hL
    refine ⟨_, rfl, r, 2, rfl, hR.but (same_new hL), by decide, fun H1 v v0 v1 hR1 s1 => ?_⟩
    have eL : H1 L = some (.lst [.int 8, .int 64]) := s1 _ _ nL upd_same
    have sb1 : SameBut r H H1 := sb_trans (sb_of (same_new hL)) s1
    obtain ⟨k, hk, k8⟩ : ∃ k : Int, atI [V.int 8, .int 64] v = some (.int k) ∧ (1 ≤ k ∧ k ≤ 64) := by
      rcases (by omega : v = 0 ∨ v = 1) with rfl | rfl
      · exact ⟨8, rfl, by decide⟩
      · exact ⟨64, rfl, by decide⟩
    refine ⟨L, _, v, _, rfl, rfl, SqL.of eL, hk, r, k, rfl, hR1, by omega, fun H2 v2 v20 v21 hR2 s2 => ?_⟩
    have sb2 := sb_trans sb1 s2
    refine ⟨_, _, rfl, rfl, ?_⟩
    refine ⟨_, rfl, (by show 2 ≤ sizeLine; decide), fun L2 hL2 => ?_⟩
    have nL2 := hR2.ne hL2
    refine ⟨_, rfl, r, 2, rfl, hR2.but (same_new hL2), by decide, fun H3 v3 v30 v31 hR3 s3 => ?_⟩
    have eL2 : H3 L2 = some (.lst [.int 4, .int 16]) := s3 _ _ nL2 upd_same
    have sb3 : SameBut r H H3 := sb_trans sb2 (sb_trans (sb_of (same_new hL2)) s3)
    obtain ⟨k2, hk2, k28⟩ : ∃ k : Int, atI [V.int 4, .int 16] v3 = some (.int k) ∧ (1 ≤ k ∧ k ≤ 16) := by
      rcases (by omega : v3 = 0 ∨ v3 = 1) with rfl | rfl
      · exact ⟨4, rfl, by decide⟩
      · exact ⟨16, rfl, by decide⟩
    refine ⟨L2, _, v3, _, rfl, rfl, SqL.of eL2, hk2, r, k2, rfl, hR3, by omega, fun H4 v4 v40 v41 hR4 s4 => ?_⟩
    have sb4 := sb_trans sb3 s4
    refine ⟨_, _, rfl, rfl, ?_⟩
    refine ⟨_, rfl, _, rfl, _, rfl, r, 4, rfl, hR4, by decide, fun H5 v5 v50 v51 hR5 s5 => ?_⟩
    refine ⟨_, _, rfl, rfl, _, rfl, _, rfl, r, 1 + v2, rfl, hR5, by omega, fun H6 v6 v60 v61 hR6 s6 => ?_⟩
    refine ⟨(by show 4 ≤ sizeLine; decide), fun p hp => ?_⟩
    have sb6 := sb_trans sb4 (sb_trans s5 s6)
    exact q _ p ⟨1 + v2, 1 + v4, 1 + v5, v6⟩ ⟨by show 1 ≤ 1 + v2; omega, by show 1 + v2 ≤ 64; omega, by show 1 ≤ 1 + v4; omega, by show 1 + v4 ≤ 16; omega, by show 1 ≤ 1 + v5; omega, by show 1 + v5 ≤ 4; omega, v60, v61⟩
      (hR6.but (same_new hp)) (sb_new sb6 hp) (hR6.ne hp) upd_same
end
/-! ### the law's asks: any good ones, no more than it says -/
abbrev s_l_asks : Stmt := top 23
def sp_l_asks (K : PySem.W.Frag) : Sp := fun vs H Q _ => ∃ (r : Addr) (v : V) (d : Disk) (most : Int), vs = [.ref r, v, .int most] ∧ RowAt K H r ∧ Dp K (wo H r) v (dDisk d) ∧ GoodDisk d ∧ 0 ≤ most ∧ most ≤ 40 ∧
  ∀ (H' : Hp) (p : Addr) (l : List Ask) (xs : List V), GoodAsks d l → (l.length : Int) ≤ most → RowAt K H' r → SameBut r H H' → p ≠ r → H p = none → H' p = some (.lst xs) → DpAll K (wo (wo H' r) p) xs (l.map dAsk) → Q (.ref p) H'
theorem sc_l_asks : FnScope ["_law_row", "_law_disk_here", "_law_most", "_law_often", "_law_few", "_law_found", "_law_k"] ["_law_row", "_law_disk_here", "_law_most"] (defScope s_l_asks) := ⟨rfl, rfl, rfl, by decide +kernel, rfl, by decide +kernel, by decide +kernel⟩
section
variable {P : Program} {w : World} {K : PySem.W.Frag} {mg : Str → Option Value} {base : Heap}
theorem ok_l_asks {f fT : Addr} {fd fdT : FuncData} (F : Fun K "_law_asks" "_law_asks" s_l_asks f fd) (GT : FnOk P w K mg base CX0 1 fT fdT ["_law_row", "_law_many"] (sp_l_taken K)) (gT : mg "_law_taken" = some (.ref fT)) (kT : PySem.W.keepIn K (.ref fT) = true) (bT : Binds K fdT ["_law_row", "_law_many"] [])
    (mm : mg "min" = none) (mr : mg "range" = none) : FnOk P w K mg base CX0 2 f fd ["_law_row", "_law_disk_here", "_law_most"] (sp_l_asks K) := by
  refine F.ok sc_l_asks (fun vs H Q E h => ?_) (fun cdv A outer s H vs Q E hr h => ?_)
  · obtain ⟨r, v, d, most, rfl, _⟩ := h
    rfl
  · obtain ⟨r, v, d, most, rfl, hR, hd, g, m0, m40, q⟩ := h
    obtain ⟨a, rfl, hT⟩ := dp_disk hd
    have nd := sc_l_asks.nd
    have hr1 : Room 1 _ := hr
    have hTB : ∀ {H' : Hp}, SameBut r H H' → SqT K H' a [.int d.tr, .int d.sc, .int d.pa, .int d.he] := fun s => same_sqt wo_sub (same_sqt (sb_wo s) hT)
    refine ⟨_, pss_cons (ps_set (i := 3) nd rfl (.inl rfl) (pe_ix ix_list (pe_lst (pa_cons pe_int (pa_cons pe_int (pa_cons pe_int (pa_cons pe_int pa_nil))))) (pe_call GT hr1 rfl gT kT bT .nil pass0 (pa_cons (pv 0) (pa_cons pe_int pa_nil))) (fun _ _ => rfl)))
      (pss_cons (ps_set (i := 4) nd rfl (.inl rfl) (pe_ix ix_list (pe_lst (pa_cons (pe_ix ix_tup (pv 1) pe_int (fun _ _ => rfl)) (pa_cons (pe_callB (call_min2 rfl) (by rfl) mm (by decide +kernel) (pa_cons (pe_ix ix_tup (pv 1) pe_int (fun _ _ => rfl)) (pa_cons pe_int pa_nil))) pa_nil))) (pe_call GT hr1 rfl gT kT bT .nil pass0 (pa_cons (pv 0) (pa_cons pe_int pa_nil))) (fun _ _ => rfl)))
      (pss_cons (ps_set (i := 5) nd rfl (.inl rfl) (pe_lst pa_nil))
      (pss_cons (ps_for PassesOwn.never rfl (pi_range1 rfl mr (pa_cons (pe_call GT hr1 rfl gT kT bT .nil pass0 (pa_cons (pv 0) (pa_cons (pe_op op_add (pv 2) pe_int) pa_nil))) pa_nil)) (pg_name (i := 6) nd rfl (.inl rfl))
        (pss_one (ps_expr (pe_bm PySem.F.plainAttrs_list PySem.F.slot_list_append PySem.F.type_list_append mt_append (pv 5) (pa_cons (pe_tup (pa_cons (pe_call GT hr1 rfl gT kT bT .nil pass0 (pa_cons (pv 0) (pa_cons (pv 3) pa_nil))) (pa_cons (pe_call GT hr1 rfl gT kT bT .nil pass0 (pa_cons (pv 0) (pa_cons (pv 4) pa_nil)))
          (pa_cons (pe_call GT hr1 rfl gT kT bT .nil pass0 (pa_cons (pv 0) (pa_cons (pe_ix ix_tup (pv 1) pe_int (fun _ _ => rfl)) pa_nil))) pa_nil)))) pa_nil)))))
      (pss_one (ps_ret (pv 5)))))), ?_⟩
    refine ⟨(by show 4 ≤ sizeLine; decide), fun L hL => ?_⟩
    have nL := hR.ne hL
    refine ⟨_, rfl, r, 4, rfl, hR.but (same_new hL), by decide, fun H1 v v0 v1 hR1 s1 => ?_⟩
    have eL : H1 L = some (.lst [.int 1, .int 5, .int 60, .int 1000]) := s1 _ _ nL upd_same
    have sb1 : SameBut r H H1 := sb_trans (sb_of (same_new hL)) s1
    obtain ⟨k, hk, k8⟩ : ∃ k : Int, atI [V.int 1, .int 5, .int 60, .int 1000] v = some (.int k) ∧ (1 ≤ k ∧ k ≤ 1000) := by
      rcases (by omega : v = 0 ∨ v = 1 ∨ v = 2 ∨ v = 3) with rfl | rfl | rfl | rfl
      · exact ⟨1, rfl, by decide⟩
      · exact ⟨5, rfl, by decide⟩
      · exact ⟨60, rfl, by decide⟩
      · exact ⟨1000, rfl, by decide⟩
    refine ⟨L, _, v, _, rfl, rfl, SqL.of eL, hk, ?_⟩
    refine ⟨_, rfl, a, _, 0, _, rfl, rfl, hTB sb1, atI_nat (j := 0) rfl, _, rfl, a, _, 0, _, rfl, rfl, hTB sb1, atI_nat (j := 0) rfl, _, _, rfl, (by show 2 ≤ sizeLine; decide), fun L2 hL2 => ?_⟩
    have nL2 := hR1.ne hL2
    refine ⟨_, rfl, r, 2, rfl, hR1.but (same_new hL2), by decide, fun H2 v2 v20 v21 hR2 s2 => ?_⟩
    have eL2 : H2 L2 = some (.lst [.int d.tr, .int (if (4 : Int) < d.tr then 4 else d.tr)]) := s2 _ _ nL2 upd_same
    have sb2 : SameBut r H H2 := sb_trans sb1 (sb_trans (sb_of (same_new hL2)) s2)
    have ht1 := g.t1
    obtain ⟨k2, hk2, k28⟩ : ∃ k : Int, atI [V.int d.tr, .int (if (4 : Int) < d.tr then 4 else d.tr)] v2 = some (.int k) ∧ (1 ≤ k ∧ k ≤ d.tr) := by
      rcases (by omega : v2 = 0 ∨ v2 = 1) with rfl | rfl
      · exact ⟨d.tr, rfl, by omega⟩
      · exact ⟨_, rfl, by split <;> omega⟩
    refine ⟨L2, _, v2, _, rfl, rfl, SqL.of eL2, hk2, Nat.zero_le _, fun F hF => ?_⟩
    have nF := hR2.ne hF
    have hF0 : H F = none := sb_free sb2 nF hF
    refine ⟨_, rfl, _, rfl, _, _, rfl, rfl, r, most + 1, rfl, hR2.but (same_new hF), by omega, fun H3 n n0 n1 hR3 s3 => ?_⟩
    have sb3 : SameBut r H H3 := sb_trans sb2 (sb_trans (sb_of (same_new hF)) s3)
    have eF3 : H3 F = some (.lst []) := s3 _ _ nF upd_same
    refine ⟨n, rfl, by omega, by omega, ?_⟩
    refine for_range (lo := 0) (n := n.toNat) (fun i σ H' => RowAt K H' r ∧ SameBut r H H' ∧ ∃ (l : List Ask) (xs : List V) (v6 : Option V), σ = [some (.ref r), some (.ref a), some (.int most), some (.int k), some (.int k2), some (.ref F), v6] ∧
        l.length = i ∧ xs.length = i ∧ (∀ x ∈ l, GoodAsk d x) ∧ H' F = some (.lst xs) ∧ DpAll K (wo (wo H' r) F) xs (l.map dAsk)) ⟨hR3, sb3, [], [], none, rfl, rfl, rfl, fun x hx => absurd hx (by simp), eF3, .nil⟩ ?_ ?_
    · rintro i σ H' hi ⟨hR', sb', l, xs, v6, rfl, hl, hx, hg, eF, hda⟩
      refine ⟨_, rfl, .inl ⟨rfl, _, SqL.of eF⟩, ?_⟩
      refine ⟨_, rfl, _, rfl, r, k, rfl, hR', by omega, fun H4 c c0 c1 hR4 s4 => ?_⟩
      refine ⟨_, rfl, _, rfl, r, k2, rfl, hR4, by omega, fun H5 t t0 t1 hR5 s5 => ?_⟩
      have sb5 := sb_trans sb' (sb_trans s4 s5)
      refine ⟨_, rfl, _, rfl, a, _, 1, _, rfl, rfl, hTB sb5, atI_nat (j := 1) rfl, r, d.sc, rfl, hR5, (by have := g.s1; omega), fun H6 z z0 z1 hR6 s6 => ?_⟩
      refine ⟨(by show 3 ≤ sizeLine; decide), fun p hp => ?_⟩
      have sb6 := sb_trans sb5 s6
      have sF6 := sb_trans s4 (sb_trans s5 s6)
      have eF6 : H6 F = some (.lst xs) := sF6 _ _ nF eF
      have nFp : F ≠ p := ne_of_none eF6 hp
      have npr : p ≠ r := hR6.ne hp
      refine ⟨F, xs, .ref p, rfl, rfl, by rw [upd_ne nFp]; exact eF6, small1000 (by omega), ?_⟩
      refine ⟨(hR6.but (same_new hp)).put nF (by rw [upd_ne nFp]; exact eF6), sb_old (sb_new sb6 hp) hF0, l ++ [(c, t, z)], xs ++ [.ref p], some (.int (0 + (i : Int))), rfl, by rw [List.length_append, hl]; rfl, by rw [List.length_append, hx]; rfl, ?_, upd_same, ?_⟩
      · intro x hx'
        rcases List.mem_append.mp hx' with h | h
        · exact hg x h
        · rw [List.mem_singleton.mp h]
          exact ⟨c0, by show c ≤ 999; omega, t0, by show t < d.tr; omega, z0, z1⟩
      · rw [List.map_append]
        refine dpa_snoc (dpa_same ?_ hda) ?_
        · exact wo2_step fun b o n1 n2 e => by rw [upd_ne n2, upd_ne (ne_of_none (sF6 b o n1 e) hp)]; exact sF6 b o n1 e
        · exact dp_tints_of (ns := [c, t, z]) (.inl (.inl (by rw [wo_ne nFp.symm, wo_ne npr, upd_ne nFp.symm, upd_same]; rfl)))
    · rintro σ H' ⟨hR', sb', l, xs, v6, rfl, hl, hx, hg, eF, hda⟩
      exact ⟨_, rfl, q H' F l xs ⟨by omega, hg⟩ (by omega) hR' sb' nF hF0 eF hda⟩
end
end Ag

namespace Ag
open PySem PySem.Spec PyProof.Rows L2
/-! ### the law's look at two answers: the same data is alike -/
abbrev s_l_alike : Stmt := top 21
def okD : Nat → PyData → Prop
  | 0, _ => False
  | n + 1, .list ds => ds.length ≤ 1000 ∧ ∀ d ∈ ds, okD n d
  | n + 1, .tuple ds => ds.length ≤ 1000 ∧ ∀ d ∈ ds, okD n d
  | _ + 1, .dict _ => False
  | _ + 1, _ => True
theorem okD_int (n : Nat) (i : Int) : okD (n + 1) (.int i) := by simp [okD]
theorem okD_str (n : Nat) (i : Str) : okD (n + 1) (.str i) := by simp [okD]
theorem okD_list {n : Nat} {ds : List PyData} (h : ds.length ≤ 1000) (h2 : ∀ d ∈ ds, okD n d) : okD (n + 1) (.list ds) := by
  unfold okD
  exact ⟨h, h2⟩
theorem okD_tuple {n : Nat} {ds : List PyData} (h : ds.length ≤ 1000) (h2 : ∀ d ∈ ds, okD n d) : okD (n + 1) (.tuple ds) := by
  unfold okD
  exact ⟨h, h2⟩
theorem okD_ints (n : Nat) (ns : List Int) : ∀ d ∈ ns.map PyData.int, okD (n + 1) d := fun d hd => by
  obtain ⟨i, _, rfl⟩ := List.mem_map.mp hd
  exact okD_int n i
def tyN : PyData → String
  | .none => "NoneType"
  | .bool _ => "bool"
  | .int _ => "int"
  | .str _ => "str"
  | .list _ => "list"
  | .tuple _ => "tuple"
  | .dict _ => "dict"
theorem dp_ty {K : PySem.W.Frag} {H : Hp} {x : V} : ∀ {d : PyData}, Dp K H x d → TyX K H x (.type (tyN d))
  | .none, h => by cases h; exact .base .non
  | .bool _, h => by cases h; exact .base (.bl _)
  | .int _, h => by cases h; exact .base (.int _)
  | .str _, h => by cases h; exact .base (.str _)
  | .list _, h => by
    cases h with
    | lst hs ha =>
      rcases hs with (h | ⟨o, h⟩) | ⟨o, its, n, h, c, _⟩
      · exact .base (.lst h)
      · exact .base (.frz h)
      · exact .kList h c
  | .tuple _, h => by
    cases h with
    | tup hs ha =>
      rcases hs with (h | ⟨o, h⟩) | ⟨o, its, n, h, c, _⟩
      · exact .base (.tup h)
      · exact .fTuple h
      · exact .kTuple h c
  | .dict _, h => by cases h
def sp_l_alike (n : Nat) (K : PySem.W.Frag) : Sp := fun vs H Q _ => ∃ (x y : V) (d : PyData), vs = [x, y] ∧ Dp K H x d ∧ Dp K H y d ∧ okD n d ∧ ∀ H' : Hp, Same H H' → Q (.bl true) H'
theorem sc_l_alike : FnScope ["_law_found", "_law_due", "_law_k"] ["_law_found", "_law_due"] (defScope s_l_alike) := ⟨rfl, rfl, rfl, by decide +kernel, rfl, by decide +kernel, by decide +kernel⟩
/-- length and items of a list or tuple that is read -/
theorem dp_seq {K : PySem.W.Frag} {H : Hp} {x : V} {ds : List PyData} (h : Dp K H x (.list ds) ∨ Dp K H x (.tuple ds)) : ∃ a xs, x = .ref a ∧ (SqL K H a xs ∨ SqT K H a xs) ∧ DpAll K H xs ds := by
  rcases h with h | h
  · obtain ⟨a, xs, e, h1, h2⟩ := dp_list h
    exact ⟨a, xs, e, .inl h1, h2⟩
  · obtain ⟨a, xs, e, h1, h2⟩ := dp_tuple h
    exact ⟨a, xs, e, .inr h1, h2⟩
theorem lenv_seq {K : PySem.W.Frag} {H : Hp} {a : Addr} {xs : List V} {n : Nat} (h : SqL K H a xs ∨ SqT K H a xs) (e : n = xs.length) : LenV K (.ref a) H n := by
  rcases h with h | h
  · exact .inl ⟨xs, h, e⟩
  · exact .inr ⟨xs, h, e⟩
theorem rix_seq {K : PySem.W.Frag} {H : Hp} {a : Addr} {xs : List V} {i : Int} {v : V} {Q : VK} (h : SqL K H a xs ∨ SqT K H a xs) (e : atI xs i = some v) (q : Q v H) : rIx K (.ref a) (.int i) H Q := by
  rcases h with h | h
  · exact .inl ⟨a, xs, i, v, rfl, rfl, h, e, q⟩
  · exact .inr (.inl ⟨a, xs, i, v, rfl, rfl, h, e, q⟩)
section
variable {P : Program} {w : World} {K : PySem.W.Frag} {mg : Str → Option Value} {base : Heap}
theorem kit_not {a b : String} {r : Bool} (h : kitB a b = some r) : PySem.W.kitOne K (.type a) (.type b) = some r := kit_ty h
set_option maxHeartbeats 16000000 in
theorem ok_l_alike {f : Addr} {fd : FuncData} (F : Fun K "_law_alike" "_law_alike" s_l_alike f fd) (bA : Binds K fd ["_law_found", "_law_due"] []) (gA : mg "_law_alike" = some (.ref f)) (mi : mg "isinstance" = none) (mt : mg "tuple" = none) (ml : mg "list" = none) (mb : mg "bool" = none) (ms : mg "str" = none) (mn : mg "int" = none)
    (me : mg "len" = none) (mr : mg "range" = none) : ∀ n : Nat, FnOk P w K mg base CX0 (n + 1) f fd ["_law_found", "_law_due"] (sp_l_alike n K)
  | 0 => by
    refine F.ok sc_l_alike (fun vs H Q E h => ?_) (fun cdv A outer s H vs Q E hr h => ?_)
    · obtain ⟨x, y, d, rfl, _⟩ := h
      rfl
    · obtain ⟨x, y, d, _, _, _, h, _⟩ := h
      unfold okD at h
      exact h.elim
  | n + 1 => by
    have G := ok_l_alike F bA gA mi mt ml mb ms mn me mr n
    refine F.ok sc_l_alike (fun vs H Q E h => ?_) (fun cdv A outer s H vs Q E hr h => ?_)
    · obtain ⟨x, y, d, rfl, _⟩ := h
      rfl
    · obtain ⟨x, y, d, rfl, hx, hy, hok, q⟩ := h
      have nd := sc_l_alike.nd
      refine ⟨_, pss_cons (ps_if (PW.pt (pw_or (pt_val (pe_callB call_isi (by rfl) mi (by decide +kernel) (pa_cons (pv 1) (pa_cons (pe_bltn (v := .ty "tuple") rfl mt (by decide +kernel) rfl) pa_nil))))
          (pw_or1 (pt_val (pe_callB call_isi (by rfl) mi (by decide +kernel) (pa_cons (pv 1) (pa_cons (pe_bltn (v := .ty "list") rfl ml (by decide +kernel) rfl) pa_nil)))))))
          (pss_cons (ps_if (PW.pt (pw_or (pt_cmpR op_ne (pe_callB call_isi (by rfl) mi (by decide +kernel) (pa_cons (pv 0) (pa_cons (pe_bltn (v := .ty "tuple") rfl mt (by decide +kernel) rfl) pa_nil))) (pe_callB call_isi (by rfl) mi (by decide +kernel) (pa_cons (pv 1) (pa_cons (pe_bltn (v := .ty "tuple") rfl mt (by decide +kernel) rfl) pa_nil))) (nomark _))
            (pw_or1 (pt_not (pt_val (pe_callB call_isiT (by rfl) mi (by decide +kernel) (pa_cons (pv 0) (pa_cons (pe_tup (pa_cons (pe_bltn (v := .ty "tuple") rfl mt (by decide +kernel) rfl) (pa_cons (pe_bltn (v := .ty "list") rfl ml (by decide +kernel) rfl) pa_nil))) pa_nil))))))))
            (pss_one ps_never) pss_nil)
          (pss_cons (ps_if (pt_cmpR op_ne (pe_callB call_len (by rfl) me PySem.boot_len (pa_cons (pv 0) pa_nil)) (pe_callB call_len (by rfl) me PySem.boot_len (pa_cons (pv 1) pa_nil)) (nomark _)) (pss_one ps_never) pss_nil)
          (pss_one (ps_ret (pe_cmpR (op_eqD hr.units) (pe_lc (own := [("_law_k", 2)]) (g := gName 2) rfl nd (pi_range1 rfl mr (pa_cons (pe_callB call_len (by rfl) me PySem.boot_len (pa_cons (pv 1) pa_nil)) pa_nil)) (blkOk_by (own := [("_law_k", 2)]) (N := ["_law_found", "_law_due", "_law_k"]) (sc := defScope s_l_alike) (by decide +kernel))
            (fun _ _ _ _ _ => pg_name (i := 2) nd rfl (Or.inl rfl))
            (fun _ _ _ _ _ => pts_one (pt_not (pt_val (pe_call G hr rfl gA F.kp bA .nil pass0 (pa_cons (pe_ix (r := rIx K) ix_seq (pv 0) (pv 2) (fun _ _ => rfl)) (pa_cons (pe_ix (r := rIx K) ix_seq (pv 1) (pv 2) (fun _ _ => rfl)) pa_nil))))))
            (fun _ _ _ _ _ => pv 2)) (pe_lst pa_nil) (nomark _)))))) pss_nil)
        (pss_cons (ps_if (PW.pt (pw_or (pt_cmpR op_isN (pv 1) pe_non (nomark _)) (pw_or1 (pt_cmpR op_isN (pv 0) pe_non (nomark _))))) (pss_one (ps_ret (pe_and (pe_cmpR op_isN (pv 1) pe_non (nomark _)) (pe_one (pe_cmpR op_isN (pv 0) pe_non (nomark _)))))) pss_nil)
        (pss_cons (ps_if (PW.pt (pw_or (pt_val (pe_callB call_isi (by rfl) mi (by decide +kernel) (pa_cons (pv 1) (pa_cons (pe_bltn (v := .ty "bool") rfl mb (by decide +kernel) rfl) pa_nil)))) (pw_or1 (pt_val (pe_callB call_isi (by rfl) mi (by decide +kernel) (pa_cons (pv 0) (pa_cons (pe_bltn (v := .ty "bool") rfl mb (by decide +kernel) rfl) pa_nil)))))))
          (pss_one (ps_ret (pe_and (pe_callB call_isi (by rfl) mi (by decide +kernel) (pa_cons (pv 1) (pa_cons (pe_bltn (v := .ty "bool") rfl mb (by decide +kernel) rfl) pa_nil))) (pe_and (pe_callB call_isi (by rfl) mi (by decide +kernel) (pa_cons (pv 0) (pa_cons (pe_bltn (v := .ty "bool") rfl mb (by decide +kernel) rfl) pa_nil))) (pe_one (pe_cmpR op_eq (pv 0) (pv 1) (nomark _))))))) pss_nil)
        (pss_cons (ps_if (pt_val (pe_callB call_isi (by rfl) mi (by decide +kernel) (pa_cons (pv 1) (pa_cons (pe_bltn (v := .ty "str") rfl ms (by decide +kernel) rfl) pa_nil))))
          (pss_one (ps_ret (pe_and (pe_callB call_isi (by rfl) mi (by decide +kernel) (pa_cons (pv 0) (pa_cons (pe_bltn (v := .ty "str") rfl ms (by decide +kernel) rfl) pa_nil))) (pe_one (pe_cmpR op_eq (pv 0) (pv 1) (nomark _)))))) pss_nil)
        (pss_one (ps_ret (pe_and (pe_callB call_isi (by rfl) mi (by decide +kernel) (pa_cons (pv 0) (pa_cons (pe_bltn (v := .ty "int") rfl mn (by decide +kernel) rfl) pa_nil))) (pe_one (pe_cmpR op_eq (pv 0) (pv 1) (nomark _))))))))), ?_⟩
      have cls : (∃ (ds : List PyData) (tn : String) (bt : Bool), (∀ H', Same H H' → TyX K H' x (.type tn)) ∧ (∀ H', Same H H' → TyX K H' y (.type tn)) ∧ kitB tn "tuple" = some bt ∧ kitB tn "list" = some (!bt) ∧ (Dp K H x (.list ds) ∨ Dp K H x (.tuple ds)) ∧ (Dp K H y (.list ds) ∨ Dp K H y (.tuple ds)) ∧ ds.length ≤ 1000 ∧ ∀ e ∈ ds, okD n e) ∨
          (TyX K H x (.type (tyN d)) ∧ TyX K H y (.type (tyN d)) ∧ x = y ∧ ((∃ i, d = .int i ∧ x = .int i) ∨ (∃ i, d = .str i ∧ x = .str i) ∨ (∃ i, d = .bool i ∧ x = .bl i) ∨ (d = .none ∧ x = .non))) := by
        have tx := dp_ty hx
        have ty := dp_ty hy
        cases d with
        | none =>
          cases hx
          cases hy
          exact .inr ⟨tx, ty, rfl, .inr (.inr (.inr ⟨rfl, rfl⟩))⟩
        | bool b =>
          cases hx
          cases hy
          exact .inr ⟨tx, ty, rfl, .inr (.inr (.inl ⟨b, rfl, rfl⟩))⟩
        | int i =>
          cases hx
          cases hy
          exact .inr ⟨tx, ty, rfl, .inl ⟨i, rfl, rfl⟩⟩
        | str i =>
          cases hx
          cases hy
          exact .inr ⟨tx, ty, rfl, .inr (.inl ⟨i, rfl, rfl⟩)⟩
        | list ds =>
          unfold okD at hok
          exact .inl ⟨ds, "list", false, fun H' s => dp_ty (dp_same s hx), fun H' s => dp_ty (dp_same s hy), by decide +kernel, by decide +kernel, .inl hx, .inl hy, hok.1, hok.2⟩
        | tuple ds =>
          unfold okD at hok
          exact .inl ⟨ds, "tuple", true, fun H' s => dp_ty (dp_same s hx), fun H' s => dp_ty (dp_same s hy), by decide +kernel, by decide +kernel, .inr hx, .inr hy, hok.1, hok.2⟩
        | dict kvs => cases hx
      rcases cls with ⟨ds, tn, bt, tx, ty, kt, kl, hx', hy', hlen, hall⟩ | ⟨tx, ty, rfl, hsc⟩
      · obtain ⟨a, xs, rfl, hxs, hxa⟩ := dp_seq hx'
        obtain ⟨b, ys, rfl, hys, hya⟩ := dp_seq hy'
        have exl : xs.length = ds.length := dpa_len hxa
        have eyl : ys.length = ds.length := dpa_len hya
        have kA : PySem.W.kitAny K (.type tn) [.type "tuple", .type "list"] = some true := by
          cases bt with
          | true => exact kitAny_cons (kit_ty kt) (fun z => by cases z) (fun _ => rfl)
          | false => exact kitAny_cons (kit_ty kt) (fun _ => kitAny_cons (kit_ty kl) (fun z => by cases z) (fun _ => rfl)) (fun z => by cases z)
        have ty0 := ty H (Same.refl H)
        have tx0 := tx H (Same.refl H)
        refine ⟨_, rfl, .ref b, .ty "tuple", _, _, bt, rfl, ClsV.ty _, ty0, kit_ty kt, _, rfl, ?_⟩
        have step : ∀ {A B D : Prop}, (bt = false → (if true = true then A else B) → D) → A → (if bt = true then (if true = true then A else B) else D) := fun h1 h2 => by
          cases bt with
          | true => exact iteT (iteT h2)
          | false => exact iteF (h1 rfl (iteT h2))
        refine step (fun _ hh => ⟨_, rfl, .ref b, .ty "list", _, _, true, rfl, ClsV.ty _, ty0, kit_ty (by rw [kl]; cases bt <;> first | rfl | contradiction), _, rfl, hh⟩) ?_
        refine ⟨_, rfl, .ref a, .ty "tuple", _, _, bt, rfl, ClsV.ty _, tx0, kit_ty kt, _, rfl, .ref b, .ty "tuple", _, _, bt, rfl, ClsV.ty _, ty0, kit_ty kt, rfl, _, rfl, ifnd_t rfl ?_⟩
        refine ⟨_, rfl, (by show 2 ≤ sizeLine; decide), fun tp htp => ?_⟩
        have s1 : Same H (upd H tp (.tup [.ty "tuple", .ty "list"])) := same_new htp
        refine ⟨.ref a, tp, _, _, _, true, rfl, upd_same, .cons (ClsV.ty _) (.cons (ClsV.ty _) .nil), tx _ s1, kA, _, rfl, iteF ?_⟩
        have m1 : ∀ {H' : Hp}, Same H H' → (SqL K H' a xs ∨ SqT K H' a xs) := fun s => hxs.elim (fun h => .inl (s.seq h)) (fun h => .inr (same_sqt s h))
        have m2 : ∀ {H' : Hp}, Same H H' → (SqL K H' b ys ∨ SqT K H' b ys) := fun s => hys.elim (fun h => .inl (s.seq h)) (fun h => .inr (same_sqt s h))
        refine ⟨_, rfl, _, ds.length, rfl, lenv_seq (m1 s1) exl.symm, _, rfl, _, ds.length, rfl, lenv_seq (m2 s1) eyl.symm, rfl, _, rfl, ifnd_t rfl ?_⟩
        refine ⟨_, rfl, _, ds.length, rfl, lenv_seq (m2 s1) eyl.symm, _, rfl, by omega, by omega, fun D hD => ?_⟩
        have s2 : Same H (upd (upd H tp (.tup [.ty "tuple", .ty "list"])) D (.lst [])) := s1.trans (same_new hD)
        refine lc_range (lo := 0) (n := ds.length) (fun i H' => Same H H' ∧ H' D = some (.lst [])) ⟨s2, upd_same⟩ ?_ ?_
        · rintro i H' hi ⟨s3, eD⟩
          obtain ⟨e, he⟩ : ∃ e, ds[i]? = some e := ⟨_, List.getElem?_eq_getElem hi⟩
          obtain ⟨u, hu, hud⟩ := dpa_get hxa he
          obtain ⟨v, hv, hvd⟩ := dpa_get hya he
          refine ⟨rfl, _, rfl, _, rfl, rix_seq (m1 s3) (at_of (j := i) (by omega) hu) ?_⟩
          refine ⟨_, rfl, _, rfl, rix_seq (m2 s3) (at_of (j := i) (by omega) hv) ?_⟩
          refine ⟨u, v, e, rfl, dp_same s3 hud, dp_same s3 hvd, hall e (List.mem_of_getElem? he), fun H4 s4 => ⟨_, rfl, iteF ⟨s3.trans s4, s4 _ _ eD⟩⟩⟩
        · rintro H' ⟨s3, eD⟩
          refine ⟨Nat.zero_le _, fun z hz => ?_⟩
          have s4 := same_new (o := .lst []) hz
          exact ⟨.list [], .list [], .lst (SqL.of (s4 _ _ eD)) .nil, .lst (SqL.of upd_same) .nil, rfl, rfl, q _ (s3.trans s4)⟩
      · have step0 : ∀ {A : Prop}, A → A := fun h => h
        rcases hsc with ⟨i, rfl, rfl⟩ | ⟨i, rfl, rfl⟩ | ⟨i, rfl, rfl⟩ | ⟨rfl, rfl⟩
        · have tx : TyX K H _ (.type "int") := tx
          have ty : TyX K H _ (.type "int") := ty
          refine ⟨_, rfl, _, .ty "tuple", _, _, false, rfl, ClsV.ty _, ty, kit_ty (by decide +kernel), _, rfl, iteF ⟨_, rfl, _, .ty "list", _, _, false, rfl, ClsV.ty _, ty, kit_ty (by decide +kernel), _, rfl, iteF ?_⟩⟩
          refine ⟨_, rfl, rfl, _, rfl, ifd_f (by intro z; cases z) ⟨_, rfl, rfl, _, rfl, ifd_f (by intro z; cases z) ?_⟩⟩
          refine ⟨_, rfl, _, .ty "bool", _, _, false, rfl, ClsV.ty _, ty, kit_ty (by decide +kernel), _, rfl, iteF ⟨_, rfl, _, .ty "bool", _, _, false, rfl, ClsV.ty _, tx, kit_ty (by decide +kernel), _, rfl, iteF ?_⟩⟩
          refine ⟨_, rfl, _, .ty "str", _, _, false, rfl, ClsV.ty _, ty, kit_ty (by decide +kernel), _, rfl, iteF ?_⟩
          refine ⟨_, rfl, _, .ty "int", _, _, true, rfl, ClsV.ty _, tx, kit_ty (by decide +kernel), _, rfl, iteT ⟨_, rfl, _, rfl, rfl, ?_⟩⟩
          rw [decide_eq_true rfl]
          exact q _ (Same.refl _)
        · have tx : TyX K H _ (.type "str") := tx
          have ty : TyX K H _ (.type "str") := ty
          refine ⟨_, rfl, _, .ty "tuple", _, _, false, rfl, ClsV.ty _, ty, kit_ty (by decide +kernel), _, rfl, iteF ⟨_, rfl, _, .ty "list", _, _, false, rfl, ClsV.ty _, ty, kit_ty (by decide +kernel), _, rfl, iteF ?_⟩⟩
          refine ⟨_, rfl, rfl, _, rfl, ifd_f (by intro z; cases z) ⟨_, rfl, rfl, _, rfl, ifd_f (by intro z; cases z) ?_⟩⟩
          refine ⟨_, rfl, _, .ty "bool", _, _, false, rfl, ClsV.ty _, ty, kit_ty (by decide +kernel), _, rfl, iteF ⟨_, rfl, _, .ty "bool", _, _, false, rfl, ClsV.ty _, tx, kit_ty (by decide +kernel), _, rfl, iteF ?_⟩⟩
          refine ⟨_, rfl, _, .ty "str", _, _, true, rfl, ClsV.ty _, ty, kit_ty (by decide +kernel), _, rfl, iteT ?_⟩
          refine ⟨_, rfl, _, .ty "str", _, _, true, rfl, ClsV.ty _, tx, kit_ty (by decide +kernel), _, rfl, iteT ⟨_, rfl, _, rfl, rfl, ?_⟩⟩
          rw [decide_eq_true rfl]
          exact q _ (Same.refl _)
        · have tx : TyX K H _ (.type "bool") := tx
          have ty : TyX K H _ (.type "bool") := ty
          refine ⟨_, rfl, _, .ty "tuple", _, _, false, rfl, ClsV.ty _, ty, kit_ty (by decide +kernel), _, rfl, iteF ⟨_, rfl, _, .ty "list", _, _, false, rfl, ClsV.ty _, ty, kit_ty (by decide +kernel), _, rfl, iteF ?_⟩⟩
          refine ⟨_, rfl, rfl, _, rfl, ifd_f (by intro z; cases z) ⟨_, rfl, rfl, _, rfl, ifd_f (by intro z; cases z) ?_⟩⟩
          refine ⟨_, rfl, _, .ty "bool", _, _, true, rfl, ClsV.ty _, ty, kit_ty (by decide +kernel), _, rfl, iteT (iteT ?_)⟩
          refine ⟨_, rfl, _, .ty "bool", _, _, true, rfl, ClsV.ty _, ty, kit_ty (by decide +kernel), _, rfl, iteT ⟨_, rfl, _, .ty "bool", _, _, true, rfl, ClsV.ty _, tx, kit_ty (by decide +kernel), _, rfl, iteT ⟨_, rfl, _, rfl, rfl, ?_⟩⟩⟩
          rw [decide_eq_true rfl]
          exact q _ (Same.refl _)
        · have tx : TyX K H _ (.type "NoneType") := tx
          have ty : TyX K H _ (.type "NoneType") := ty
          refine ⟨_, rfl, _, .ty "tuple", _, _, false, rfl, ClsV.ty _, ty, kit_ty (by decide +kernel), _, rfl, iteF ⟨_, rfl, _, .ty "list", _, _, false, rfl, ClsV.ty _, ty, kit_ty (by decide +kernel), _, rfl, iteF ?_⟩⟩
          refine ⟨_, rfl, rfl, _, rfl, ifd_t rfl (iteT ?_)⟩
          refine ⟨_, rfl, rfl, _, rfl, ifd_t rfl ⟨_, rfl, rfl, ?_⟩⟩
          exact q _ (Same.refl _)
end
end Ag

namespace Ag
open PySem PySem.Spec PyProof.Rows L2
/-! ### the law's own reckoning of a moment, step by step -/
abbrev s_l_served : Stmt := top 24
def sp_l_served (K : PySem.W.Frag) : Sp := fun vs H Q _ => ∃ (v u : V) (d : Disk) (now here : Int) (a : Ask), vs = [v, .int now, .int here, u] ∧ Dp K H v (dDisk d) ∧ Dp K H u (dAsk a) ∧ GoodDisk d ∧ GoodAsk d a ∧ ∀ H' : Hp, Same H H' → Q (.int (serve d now here a)) H'
theorem sc_l_served : FnScope ["_law_disk_here", "_law_now", "_law_here", "_law_ask", "_law_come", "_law_track", "_law_sector"] ["_law_disk_here", "_law_now", "_law_here", "_law_ask"] (defScope s_l_served) := ⟨rfl, rfl, rfl, by decide +kernel, rfl, by decide +kernel, by decide +kernel⟩
section
variable {P : Program} {w : World} {K : PySem.W.Frag} {mg : Str → Option Value} {base : Heap}
theorem ok_l_served {f : Addr} {fd : FuncData} (F : Fun K "_law_served" "_law_served" s_l_served f fd) (mm : mg "max" = none) (mn : mg "int" = none) : FnOk P w K mg base CX0 1 f fd ["_law_disk_here", "_law_now", "_law_here", "_law_ask"] (sp_l_served K) := by
  refine F.ok sc_l_served (fun vs H Q E h => ?_) (fun cdv A outer s H vs Q E hr h => ?_)
  · obtain ⟨v, u, d, now, here, a, rfl, _⟩ := h
    rfl
  · obtain ⟨v, u, d, now, here, ask, rfl, hd, hk, g, ga, q⟩ := h
    obtain ⟨a, rfl, hT⟩ := dp_disk hd
    obtain ⟨b, rfl, hA⟩ := dp_tints hk
    have nd := sc_l_served.nd
    refine ⟨_, pss_cons (ps_asg (pv 3) (pg_tup rfl (pgs_cons (pg_name (i := 4) nd rfl (.inl rfl)) (pgs_cons (pg_name (i := 5) nd rfl (.inl rfl)) (pgs_cons (pg_name (i := 6) nd rfl (.inl rfl)) pgs_nil)))))
      (pss_cons (ps_set (i := 1) nd rfl (.inl rfl) (pe_callB (call_max2 rfl) (by rfl) mm (by decide +kernel) (pa_cons (pv 1) (pa_cons (pv 4) pa_nil))))
      (pss_cons (ps_while PassesOwn.never (pt_cmpR op_ne (pv 2) (pv 5) (nomark _))
        (pss_cons (ps_set (i := 2) nd rfl (.inl rfl) (pe_op op_add (pv 2) (pe_ix ix_list (pe_lst (pa_cons pe_int (pa_cons (pe_op op_sub pe_int pe_int) pa_nil))) (pe_callTy call_int1 (by rfl) mn (by decide +kernel) (pa_cons (pe_cmpR op_lt (pv 5) (pv 2) (nomark _)) pa_nil)) (fun _ _ => rfl))))
        (pss_one (ps_set (i := 1) nd rfl (.inl rfl) (pe_op op_add (pv 1) (pe_ix ix_tup (pv 0) pe_int (fun _ _ => rfl)))))))
      (pss_cons (ps_while PassesOwn.never (pt_cmpR op_ne (pe_op op_mod (pv 1) (pe_ix ix_tup (pv 0) pe_int (fun _ _ => rfl))) (pv 6) (nomark _))
        (pss_one (ps_set (i := 1) nd rfl (.inl rfl) (pe_op op_add (pv 1) pe_int))))
      (pss_one (ps_ret (pe_op op_add (pv 1) pe_int)))))), ?_⟩
    refine ⟨_, rfl, b, _, rfl, hA, rfl, _, _, rfl, _, _, rfl, _, _, rfl, rfl, ?_⟩
    refine ⟨_, rfl, _, rfl, _, _, rfl, ?_⟩
    refine ⟨fun m σ H' => Same H H' ∧ ∃ n h : Int, σ = [some (.ref a), some (.int n), some (.int h), some (.ref b), some (.int ask.1), some (.int ask.2.1), some (.int ask.2.2)] ∧ n + iabs (ask.2.1 - h) * d.pa = imax now ask.1 + iabs (ask.2.1 - here) * d.pa ∧ m = (iabs (ask.2.1 - h)).toNat,
      ⟨_, Same.refl _, _, _, rfl, rfl, rfl⟩, ?_⟩
    rintro m σ H1 ⟨s1, n, h, rfl, e, rfl⟩
    refine ⟨_, rfl, _, rfl, rfl, _, rfl, ?_⟩
    by_cases hne : h = ask.2.1
    · subst hne
      rw [decide_eq_true rfl]
      refine iteF ?_
      have e0 : n = imax now ask.1 + iabs (ask.2.1 - here) * d.pa := by
        rw [← e]
        unfold iabs
        rw [Int.sub_self]
        simp
      refine ⟨fun m σ H' => Same H H' ∧ ∃ n' : Int, σ = [some (.ref a), some (.int n'), some (.int ask.2.1), some (.ref b), some (.int ask.1), some (.int ask.2.1), some (.int ask.2.2)] ∧ n' + (ask.2.2 - n') % d.sc = n + (ask.2.2 - n) % d.sc ∧ m = ((ask.2.2 - n') % d.sc).toNat,
        ⟨_, s1, _, rfl, rfl, rfl⟩, ?_⟩
      rintro m σ H2 ⟨s2, n', rfl, e', rfl⟩
      refine ⟨_, rfl, _, rfl, a, _, 1, _, rfl, rfl, same_sqt s2 hT, atI_nat (j := 1) rfl, _, _, rfl, rfl, (by have := g.s1; show (0 : Int) < d.sc; omega), _, rfl, rfl, _, rfl, ?_⟩
      by_cases hz : n' % d.sc = ask.2.2
      · have e1 : decide (V.int (n' % d.sc) = V.int ask.2.2) = true := decide_eq_true (by rw [hz])
        rw [e1]
        refine iteF ⟨_, rfl, _, _, rfl, rfl, ?_⟩
        have e2 := emod_end hz
        have e3 : n' + 1 = serve d now here ask := by
          unfold serve
          rw [← e0, ← e', e2]
          omega
        show Q (.int (n' + 1)) H2
        rw [e3]
        exact q _ s2
      · have e1 : decide (V.int (n' % d.sc) = V.int ask.2.2) = false := decide_eq_false (fun z => hz (V.int.inj z))
        rw [e1]
        obtain ⟨f1, f2⟩ := emod_step (s := ask.2.2) (n := n') (c := d.sc) (by have := g.s1; omega) ga.s1 ga.s2 hz
        refine iteT ⟨fun σ' H' => Same H H' ∧ σ' = [some (.ref a), some (.int (n' + 1)), some (.int ask.2.1), some (.ref b), some (.int ask.1), some (.int ask.2.1), some (.int ask.2.2)], ?_, ?_⟩
        · rintro σ' H' ⟨s3, rfl⟩
          exact ⟨_, by omega, s3, n' + 1, rfl, by omega, rfl⟩
        · exact ⟨_, rfl, _, _, rfl, rfl, s2, rfl⟩
    · have e1 : decide (V.int h = V.int ask.2.1) = false := decide_eq_false (fun z => hne (V.int.inj z))
      rw [e1]
      have f1 := iabs_step hne
      have f2 : 1 ≤ iabs (ask.2.1 - h) := by
        have := iabs_nn (ask.2.1 - (h + (if ask.2.1 < h then -1 else 1)))
        omega
      refine iteT ⟨fun σ' H' => Same H H' ∧ σ' = [some (.ref a), some (.int (n + d.pa)), some (.int (h + (if ask.2.1 < h then -1 else 1))), some (.ref b), some (.int ask.1), some (.int ask.2.1), some (.int ask.2.2)], ?_, ?_⟩
      · rintro σ' H' ⟨s3, rfl⟩
        refine ⟨_, by omega, s3, _, _, rfl, ?_, rfl⟩
        rw [f1, Int.sub_mul, Int.one_mul]
        omega
      · refine ⟨_, rfl, _, _, rfl, rfl, (by show 2 ≤ sizeLine; decide), fun L hL => ?_⟩
        have s2 := s1.trans (same_new (o := .lst [V.int 1, V.int (0 - 1)]) hL)
        refine ⟨_, rfl, _, rfl, _, _, rfl, rfl, .inr ⟨_, rfl, L, _, _, .int (if ask.2.1 < h then -1 else 1), rfl, rfl, SqL.of upd_same, ?_, _, _, rfl, rfl, ?_⟩⟩
        · by_cases c : ask.2.1 < h
          · rw [decide_eq_true c, if_pos c]
            rfl
          · rw [decide_eq_false c, if_neg c]
            rfl
        · exact ⟨_, rfl, _, rfl, a, _, 2, _, rfl, rfl, same_sqt s2 hT, atI_nat (j := 2) rfl, _, _, rfl, rfl, s2, rfl⟩
end
/-! ### the law's own reckoning of an order -/
abbrev s_l_ordered : Stmt := top 25
def sp_l_ordered (K : PySem.W.Frag) : Sp := fun vs H Q _ => ∃ (v u o : V) (d : Disk) (l : List Ask) (os : List Nat), vs = [v, u, o] ∧ Dp K H v (dDisk d) ∧ Dp K H u (dAsks l) ∧ Dp K H o (.list ((nints os).map PyData.int)) ∧ GoodDisk d ∧ GoodAsks d l ∧ (∀ i ∈ os, i < l.length) ∧ os.length ≤ 1000 ∧
  ∀ (H' : Hp) (p c t : Addr) (xs : List V), ResAt K H H' p c t xs (rowsOf d l 0 d.he os) (costsOf d l (rowsOf d l 0 d.he os)) → Q (.ref p) H'
theorem sc_l_ordered : FnScope ["_law_disk_here", "_law_asks_here", "_law_order", "_law_now", "_law_here", "_law_rows", "_law_way", "_law_waits", "_law_number"] ["_law_disk_here", "_law_asks_here", "_law_order"] (defScope s_l_ordered) := ⟨rfl, rfl, rfl, by decide +kernel, rfl, by decide +kernel, by decide +kernel⟩
theorem max_cat (l : List Int) (m : Int) (h : m ∈ (0 :: l)) (hm : ∀ y ∈ (0 :: l), y ≤ m) (hp : ∀ x ∈ l, 1 ≤ x) : m = maxl l := by
  have h1 : maxl (0 :: l) = maxl l := maxl_zero l fun x hx => by
    have := hp x hx
    omega
  rw [← h1]
  show m = l.foldl max 0
  have up : ∀ (l : List Int) (n : Int), (∀ y ∈ l, y ≤ m) → n ≤ m → l.foldl max n ≤ m := by
    intro l
    induction l with
    | nil => intro n _ h; exact h
    | cons x r ih =>
      intro n h1 h2
      refine ih _ (fun y hy => h1 y (List.mem_cons_of_mem _ hy)) ?_
      have := h1 x List.mem_cons_self
      omega
  have lo : ∀ (l : List Int) (n : Int), (m = n ∨ m ∈ l) → m ≤ l.foldl max n := by
    intro l
    induction l with
    | nil =>
      intro n h
      rcases h with h | h
      · show m ≤ n
        omega
      · cases h
    | cons x r ih =>
      intro n h
      show m ≤ r.foldl max (max n x)
      rcases h with h | h
      · exact foldl_max_le m r _ (by omega)
      · rcases List.mem_cons.mp h with h | h
        · exact foldl_max_le m r _ (by omega)
        · exact ih _ (.inr h)
  have a := up l 0 (fun y hy => hm y (List.mem_cons_of_mem _ hy)) (hm 0 List.mem_cons_self)
  have b := lo l 0 (List.mem_cons.mp h)
  omega
theorem max_two (t h : Int) : (if h - t > t - h then h - t else t - h) = iabs (t - h) := by
  unfold iabs
  split <;> split <;> omega
section
variable {P : Program} {w : World} {K : PySem.W.Frag} {mg : Str → Option Value} {base : Heap}
set_option maxHeartbeats 16000000 in
theorem ok_l_ordered {f fS : Addr} {fd fdS : FuncData} (F : Fun K "_law_ordered" "_law_ordered" s_l_ordered f fd) (GS : FnOk P w K mg base CX0 1 fS fdS ["_law_disk_here", "_law_now", "_law_here", "_law_ask"] (sp_l_served K)) (gS : mg "_law_served" = some (.ref fS)) (kS : PySem.W.keepIn K (.ref fS) = true) (bS : Binds K fdS ["_law_disk_here", "_law_now", "_law_here", "_law_ask"] [])
    (mm : mg "max" = none) (ms : mg "sum" = none) : FnOk P w K mg base CX0 2 f fd ["_law_disk_here", "_law_asks_here", "_law_order"] (sp_l_ordered K) := by
  refine F.ok sc_l_ordered (fun vs H Q E h => ?_) (fun cdv A outer s H vs Q E hr h => ?_)
  · obtain ⟨v, u, o, d, l, os, rfl, _⟩ := h
    rfl
  · obtain ⟨v, u, o, d, l, os, rfl, hd, ha, ho, g, ga, hin, hlen, q⟩ := h
    obtain ⟨a, rfl, hT⟩ := dp_disk hd
    obtain ⟨b, xs, rfl, hL, hxl, hat⟩ := dp_asks ha
    obtain ⟨c, rfl, hO⟩ := dp_ints ho
    have nd := sc_l_ordered.nd
    have hr1 : Room 1 _ := hr
    refine ⟨_, pss_cons (ps_set (i := 3) nd rfl (.inl rfl) pe_int)
      (pss_cons (ps_set (i := 4) nd rfl (.inl rfl) (pe_ix ix_tup (pv 0) pe_int (fun _ _ => rfl)))
      (pss_cons (ps_set (i := 5) nd rfl (.inl rfl) (pe_lst pa_nil))
      (pss_cons (ps_set (i := 6) nd rfl (.inl rfl) pe_int)
      (pss_cons (ps_set (i := 7) nd rfl (.inl rfl) (pe_lst pa_nil))
      (pss_cons (ps_for PassesOwn.never rfl (pi_list (pv 2)) (pg_name (i := 8) nd rfl (.inl rfl))
        (pss_cons (ps_set (i := 3) nd rfl (.inl rfl) (pe_call GS hr1 rfl gS kS bS .nil pass0 (pa_cons (pv 0) (pa_cons (pv 3) (pa_cons (pv 4) (pa_cons (pe_ix ix_list (pv 1) (pv 8) (fun _ _ => rfl)) pa_nil))))))
        (pss_cons (ps_set (i := 6) nd rfl (.inl rfl) (pe_op op_add (pv 6) (pe_callB (call_max2 rfl) (by rfl) mm (by decide +kernel) (pa_cons (pe_op op_sub (pe_ix ix_tup (pe_ix ix_list (pv 1) (pv 8) (fun _ _ => rfl)) pe_int (fun _ _ => rfl)) (pv 4)) (pa_cons (pe_op op_sub (pv 4) (pe_ix ix_tup (pe_ix ix_list (pv 1) (pv 8) (fun _ _ => rfl)) pe_int (fun _ _ => rfl))) pa_nil)))))
        (pss_cons (ps_set (i := 4) nd rfl (.inl rfl) (pe_ix ix_tup (pe_ix ix_list (pv 1) (pv 8) (fun _ _ => rfl)) pe_int (fun _ _ => rfl)))
        (pss_cons (ps_expr (pe_bm PySem.F.plainAttrs_list PySem.F.slot_list_append PySem.F.type_list_append mt_append (pv 5) (pa_cons (pe_tup (pa_cons (pv 8) (pa_cons (pv 3) pa_nil))) pa_nil)))
        (pss_one (ps_expr (pe_bm PySem.F.plainAttrs_list PySem.F.slot_list_append PySem.F.type_list_append mt_append (pv 7) (pa_cons (pe_op op_sub (pv 3) (pe_ix ix_tup (pe_ix ix_list (pv 1) (pv 8) (fun _ _ => rfl)) pe_int (fun _ _ => rfl))) pa_nil)))))))))
      (pss_one (ps_ret (pe_tup (pa_cons (pv 5) (pa_cons (pe_tup (pa_cons (pv 6) (pa_cons (pe_callB (cr_max rfl) (by rfl) mm (by decide +kernel) (pa_cons (pe_op op_cat (pe_lst (pa_cons pe_int pa_nil)) (pv 7)) pa_nil)) (pa_cons (pe_callB (cr_sum rfl) (by rfl) ms (by decide +kernel) (pa_cons (pv 7) pa_nil)) pa_nil)))) pa_nil)))))))))), ?_⟩
    refine ⟨_, rfl, a, _, 3, _, rfl, rfl, hT, atI_nat (j := 3) rfl, Nat.zero_le _, fun F hF => ?_⟩
    have s0 : Same H (upd H F (.lst [])) := same_new hF
    refine ⟨Nat.zero_le _, fun W hW => ?_⟩
    have nFW : F ≠ W := ne_of_none upd_same hW
    have hW0 : H W = none := s0.free hW
    have s00 : Same H (upd (upd H F (.lst [])) W (.lst [])) := s0.trans (same_new hW)
    refine ⟨_, rfl, c, rfl, ⟨_, s00.seq hO⟩, for_list (K := K) (a := c) (xs := (nints os).map V.int)
      (fun i σ H' => Same H H' ∧ ∃ ys v8, σ = [some (.ref a), some (.ref b), some (.ref c), some (.int (endOf d l 0 d.he (os.take i)).1), some (.int (endOf d l 0 d.he (os.take i)).2), some (.ref F), some (.int (wayOf l d.he (rowsOf d l 0 d.he (os.take i)))), some (.ref W), v8] ∧
        H' F = some (.lst ys) ∧ ys.length = i ∧ DpAll K (fr2 H H' F W) ys ((rowsOf d l 0 d.he (os.take i)).map dRow) ∧ H' W = some (.lst ((waitsOf l (rowsOf d l 0 d.he (os.take i))).map V.int)))
      ⟨s00, [], none, rfl, by rw [upd_ne nFW, upd_same], rfl, .nil, upd_same⟩ (fun i σ H' _ ⟨s1, _⟩ => s1.seq hO) ?_ ?_⟩
    · rintro i y σ H' hi ⟨s1, ys, v8, rfl, eF, hyl, hda, eW⟩
      obtain ⟨n, hn, rfl⟩ := nints_at hi
      obtain ⟨k, hk⟩ : ∃ k, l[n]? = some k := ⟨_, List.getElem?_eq_getElem (hin n (List.mem_of_getElem? hn))⟩
      obtain ⟨p, hp, hpT, hpd⟩ := hat n k hk
      have ek : l.getD n (0, 0, 0) = k := getD_of hk
      have hlt : i < os.length := (List.getElem?_eq_some_iff.mp hn).1
      have gk := ga.at hk
      refine ⟨_, rfl, _, rfl, _, rfl, _, rfl, _, rfl, b, xs, (n : Int), .ref p, rfl, rfl, s1.seq hL, atI_nat hp, ?_⟩
      refine ⟨.ref a, .ref p, d, _, _, k, rfl, dp_same s1 hd, dp_same s1 hpd, g, gk, fun H1 s2 => ?_⟩
      have s12 := s1.trans s2
      have hLb : ∀ {H' : Hp}, Same H H' → SqL K H' b xs := fun s => s.seq hL
      have hPp : ∀ {H' : Hp}, Same H H' → SqT K H' p [.int k.1, .int k.2.1, .int k.2.2] := fun s => same_sqt s hpT
      refine ⟨_, rfl, _, rfl, _, rfl, b, xs, (n : Int), .ref p, rfl, rfl, hLb s12, atI_nat hp, p, _, 1, _, rfl, rfl, hPp s12, atI_nat (j := 1) rfl, _, rfl, _, _, rfl, rfl, _, rfl, _, rfl, _, rfl, b, xs, (n : Int), .ref p, rfl, rfl, hLb s12, atI_nat hp, p, _, 1, _, rfl, rfl, hPp s12, atI_nat (j := 1) rfl, _, _, rfl, rfl, _, _, rfl, _, _, rfl, rfl, ?_⟩
      refine ⟨_, rfl, _, rfl, b, xs, (n : Int), .ref p, rfl, rfl, hLb s12, atI_nat hp, p, _, 1, _, rfl, rfl, hPp s12, atI_nat (j := 1) rfl, ?_⟩
      have eF1 := s2 _ _ eF
      have eW1 := s2 _ _ eW
      refine ⟨_, rfl, .inl ⟨rfl, _, SqL.of eF1⟩, _, rfl, _, rfl, (by show 2 ≤ sizeLine; decide), fun t ht => ?_⟩
      have nFt : F ≠ t := ne_of_none eF1 ht
      have nWt : W ≠ t := ne_of_none eW1 ht
      have hHt : H t = none := s12.free ht
      refine ⟨F, ys, .ref t, rfl, rfl, by rw [upd_ne nFt]; exact eF1, small1000 (by omega), ?_⟩
      have s3 : Same H (upd (upd H1 t (.tup [.int (n : Int), .int (serve d (endOf d l 0 d.he (os.take i)).1 (endOf d l 0 d.he (os.take i)).2 k)])) F (.lst (ys ++ [.ref t]))) := same_upd (same_upd s12 hHt) hF
      have eW3 : (upd (upd H1 t (.tup [.int (n : Int), .int (serve d (endOf d l 0 d.he (os.take i)).1 (endOf d l 0 d.he (os.take i)).2 k)])) F (.lst (ys ++ [.ref t]))) W = some (.lst ((waitsOf l (rowsOf d l 0 d.he (os.take i))).map V.int)) := by
        rw [upd_ne nFW.symm, upd_ne nWt]
        exact eW1
      refine ⟨_, rfl, .inl ⟨rfl, _, SqL.of eW3⟩, _, rfl, _, rfl, _, rfl, b, xs, (n : Int), .ref p, rfl, rfl, hLb s3, atI_nat hp, p, _, 0, _, rfl, rfl, hPp s3, atI_nat (j := 0) rfl, _, _, rfl, rfl, W, _, _, rfl, rfl, eW3, small1000 (by rw [List.length_map]; unfold waitsOf; rw [List.length_map, rowsOf_len, List.length_take]; omega), ?_⟩
      refine ⟨same_upd s3 hW0, ys ++ [.ref t], some (.int (n : Int)), ?_, by rw [upd_ne nFW, upd_same], by rw [List.length_append, hyl]; rfl, ?_, ?_⟩
      · rw [take_more hn, endOf_snoc, rowsOf_snoc, wayOf_snoc, ek]
        rw [← end_here, ← max_two]
        rfl
      · rw [take_more hn, rowsOf_snoc, ek, List.map_append]
        refine dpa_snoc (dpa_same (fr2_step fun b o n1 n2 e => ?_) hda) ?_
        · rw [upd_ne n2, upd_ne n1, upd_ne (ne_of_none (s2 _ _ e) ht)]
          exact s2 _ _ e
        · exact dp_tints_of (ns := [(n : Int), serve d (endOf d l 0 d.he (os.take i)).1 (endOf d l 0 d.he (os.take i)).2 k]) (.inl (.inl (fr2_at nFt.symm nWt.symm hHt (by rw [upd_ne nWt.symm, upd_ne nFt.symm, upd_same]; rfl))))
      · rw [upd_same, take_more hn, rowsOf_snoc, ek]
        unfold waitsOf
        rw [List.map_append, List.map_append]
        show _ = some (HO.lst (_ ++ [V.int (_ - (l.getD n (0, 0, 0)).1)]))
        rw [ek]
    · rintro σ H' ⟨s1, ys, v8, rfl, eF, hyl, hda, eW⟩
      have e : os.take ((nints os).map V.int).length = os := List.take_of_length_le (by rw [List.length_map, nints_len]; exact Nat.le_refl _)
      rw [e] at hda eW
      rw [e]
      refine ⟨_, rfl, _, rfl, (by show 1 ≤ sizeLine; decide), fun z hz => ?_⟩
      have nWz : W ≠ z := ne_of_none eW hz
      have s2 := s1.trans (same_new (o := .lst [V.int 0]) hz)
      refine ⟨_, rfl, z, W, _, _, rfl, rfl, upd_same, by rw [upd_ne nWz]; exact eW, by rw [List.length_map]; unfold waitsOf; rw [List.length_map, rowsOf_len]; show 1 + os.length ≤ sizeLine; exact Nat.le_trans (by omega) (by decide : 1001 ≤ sizeLine), fun z2 hz2 => ?_⟩
      have s3 := same_new (o := .lst ([V.int 0] ++ (waitsOf l (rowsOf d l 0 d.he os)).map V.int)) hz2
      refine ⟨z2, 0 :: waitsOf l (rowsOf d l 0 d.he os), rfl, SqL.of upd_same, by simp, fun m hm hle => ?_⟩
      have em := max_cat _ m hm hle (rows_waits g l os 0 d.he)
      subst em
      have s4 : Same H' (upd (upd H' z (.lst [V.int 0])) z2 (.lst ([V.int 0] ++ (waitsOf l (rowsOf d l 0 d.he os)).map V.int))) := (same_new hz).trans s3
      refine ⟨_, rfl, W, _, rfl, SqL.of (s4 _ _ eW), (by show 3 ≤ sizeLine; decide), fun t ht => ?_⟩
      refine ⟨(by show 2 ≤ sizeLine; decide), fun p hp => ?_⟩
      have s5 := s4.trans (same_new (o := HO.tup [.int (wayOf l d.he (rowsOf d l 0 d.he os)), .int (maxl (waitsOf l (rowsOf d l 0 d.he os))), .int (waitsOf l (rowsOf d l 0 d.he os)).sum]) ht)
      have s6 := same_new (o := HO.tup [.ref F, .ref t]) hp
      have s7 := s5.trans s6
      refine q _ p F t ys ⟨s1.trans s7, s1.free (s5.free hp), hF, s1.free (s4.free ht), upd_same, s7 _ _ eF, s6 _ _ upd_same, ?_⟩
      exact dpa_same ((wo_sub (r := W)).trans (fr_step (sb_of s7))) hda
end
end Ag

namespace Ag
open PySem PySem.Spec PyProof.Rows L2
/-! ### the law -/
abbrev s_law : Stmt := top 26
def sp_law (K : PySem.W.Frag) : Sp := fun vs H Q _ => ∃ (a : Addr) (ns : List Int), vs = [.ref a] ∧ ScrAt K H a ns ∧ ∀ H', Q (.bl true) H'
theorem sc_law : FnScope ["_law_script", "_law_row", "_law_turn", "_law_disk_here", "_law_asks_here", "_law_left", "_law_order", "_law_handed", "_law_again", "_law_found"] ["_law_script"] (defScope s_law) := ⟨rfl, rfl, rfl, by decide +kernel, rfl, by decide +kernel, by decide +kernel⟩
theorem map_erase {α β : Type} (f : α → β) : ∀ (l : List α) (i : Nat), (l.map f).eraseIdx i = (l.eraseIdx i).map f
  | [], _ => rfl
  | _ :: _, 0 => rfl
  | x :: r, i + 1 => by
    show f x :: (r.map f).eraseIdx i = f x :: (r.eraseIdx i).map f
    rw [map_erase f r i]
theorem erase_perm {α : Type} {n : α} : ∀ {l : List α} {i : Nat}, l[i]? = some n → (n :: l.eraseIdx i).Perm l
  | [], _, h => by simp at h
  | x :: r, 0, h => by
    have e : x = n := Option.some.inj h
    subst e
    exact List.Perm.refl _
  | x :: r, i + 1, h => by
    have ih := erase_perm (l := r) (i := i) (n := n) h
    exact (List.Perm.swap x n (r.eraseIdx i)).trans (ih.cons x)
theorem shaped_handed (l : List Ask) (ns : List Int) : SeqAt.shaped (.tuple [dAsks l, .list (ns.map PyData.int)]) = true := by
  have := depth_asks l
  unfold SeqAt.shaped
  simp [PyData.canLay0, PyData.canLayAll0, canLay_asks, canLay_ints, PyData.depth, PyData.depthAll, dAsks, PySem.W.depth_ints]
  omega
theorem okD_res (m : Nat) (rs : List (Nat × Int)) (k : Int × Int × Int) (h : rs.length ≤ 1000) : okD (m + 4) (dRes rs k) := by
  refine okD_tuple (by show 2 ≤ 1000; decide) fun d hd => ?_
  rcases List.mem_cons.mp hd with rfl | hd
  · refine okD_list (by rw [List.length_map]; exact h) fun d hd => ?_
    obtain ⟨r, _, rfl⟩ := List.mem_map.mp hd
    exact okD_tuple (by show 2 ≤ 1000; decide) (okD_ints _ _)
  · rcases List.mem_cons.mp hd with rfl | hd
    · exact okD_tuple (by show 3 ≤ 1000; decide) (okD_ints _ _)
    · cases hd
/-- a def that is called: its name, that it stays, how its arguments bind -/
structure Cal (K : PySem.W.Frag) (mg : Str → Option Value) (x : Str) (f : Addr) (fd : FuncData) (ps : List Str) : Prop where
  m : mg x = some (.ref f)
  k : PySem.W.keepIn K (.ref f) = true
  b : Binds K fd ps []
section
variable {P : Program} {w : World} {K : PySem.W.Frag} {mg : Str → Option Value} {base : Heap}
set_option maxHeartbeats 16000000 in
theorem ok_law {f fT fD fA fB fO fL : Addr} {fd fdT fdD fdA fdB fdO fdL : FuncData} (F : Fun K "law" "law" s_law f fd)
    (G__law_taken : FnOk P w K mg base CX0 1 fT fdT ["_law_row", "_law_many"] (sp_l_taken K)) (C__law_taken : Cal K mg "_law_taken" fT fdT ["_law_row", "_law_many"])
    (G__law_disk : FnOk P w K mg base CX0 2 fD fdD ["_law_row"] (sp_l_disk K)) (C__law_disk : Cal K mg "_law_disk" fD fdD ["_law_row"])
    (G__law_asks : FnOk P w K mg base CX0 2 fA fdA ["_law_row", "_law_disk_here", "_law_most"] (sp_l_asks K)) (C__law_asks : Cal K mg "_law_asks" fA fdA ["_law_row", "_law_disk_here", "_law_most"])
    (G_by_order : FnOk P w K mg base CX0 3 fB fdB ["disk", "asks", "order"] (sp_by_order K)) (C_by_order : Cal K mg "by_order" fB fdB ["disk", "asks", "order"])
    (G__law_ordered : FnOk P w K mg base CX0 2 fO fdO ["_law_disk_here", "_law_asks_here", "_law_order"] (sp_l_ordered K)) (C__law_ordered : Cal K mg "_law_ordered" fO fdO ["_law_disk_here", "_law_asks_here", "_law_order"])
    (G__law_alike : FnOk P w K mg base CX0 5 fL fdL ["_law_found", "_law_due"] (sp_l_alike 4 K)) (C__law_alike : Cal K mg "_law_alike" fL fdL ["_law_found", "_law_due"])
    (mb_range : mg "range" = none) (mb_list : mg "list" = none) (mb_len : mg "len" = none) : FnOk P w K mg base CX0 6 f fd ["_law_script"] (sp_law K) := by
  refine F.ok sc_law (fun vs H Q E h => ?_) (fun cdv A outer s H vs Q E hr h => ?_)
  · obtain ⟨a, ns, rfl, _⟩ := h
    rfl
  · obtain ⟨a, ns, rfl, hS, q⟩ := h
    have nd := sc_law.nd
    have hr__law_taken : Room 1 _ := hr.mono (by decide)
    have hr__law_disk : Room 2 _ := hr.mono (by decide)
    have hr__law_asks : Room 2 _ := hr.mono (by decide)
    have hr_by_order : Room 3 _ := hr.mono (by decide)
    have hr__law_ordered : Room 2 _ := hr.mono (by decide)
    have hr__law_alike : Room 5 _ := hr.mono (by decide)
    refine ⟨_, (pss_cons (ps_set (i := 1) nd rfl (.inl rfl) (pe_lst (pa_cons (pv 0) (pa_cons pe_int (pa_cons pe_int pa_nil)))))
      (pss_cons (ps_for PassesOwn.never rfl (pi_range1 rfl mb_range (pa_cons pe_int pa_nil)) (pg_name (i := 2) nd rfl (.inl rfl))
        (pss_cons (ps_set (i := 3) nd rfl (.inl rfl) (pe_call G__law_disk hr__law_disk rfl C__law_disk.m C__law_disk.k C__law_disk.b .nil pass0 (pa_cons (pv 1) pa_nil)))
      (pss_cons (ps_set (i := 4) nd rfl (.inl rfl) (pe_call G__law_asks hr__law_asks rfl C__law_asks.m C__law_asks.k C__law_asks.b .nil pass0 (pa_cons (pv 1) (pa_cons (pv 3) (pa_cons (pe_ix (r := rIxL K) ix_list (pe_lst (pa_cons pe_int (pa_cons pe_int pa_nil))) (pe_call G__law_taken hr__law_taken rfl C__law_taken.m C__law_taken.k C__law_taken.b .nil pass0 (pa_cons (pv 1) (pa_cons pe_int pa_nil))) (fun _ _ => rfl)) pa_nil)))))
      (pss_cons (ps_set (i := 5) nd rfl (.inl rfl) (pe_listRg rfl rfl mb_list (prg_1 rfl mb_range (pe_callB call_len_seq (by rfl) mb_len PySem.boot_len (pa_cons (pv 4) pa_nil)))))
      (pss_cons (ps_set (i := 6) nd rfl (.inl rfl) (pe_lst pa_nil))
      (pss_cons (ps_while PassesOwn.never (pt_cmpR (op_neD hr.units) (pv 5) (pe_lst pa_nil) (nomark _))
        (pss_one (ps_expr (pe_bm PySem.F.plainAttrs_list PySem.F.slot_list_append PySem.F.type_list_append mt_append (pv 6) (pa_cons (pe_bm PySem.F.plainAttrs_list PySem.F.slot_list_pop PySem.F.type_list_pop mt_popAt (pv 5) (pa_cons (pe_call G__law_taken hr__law_taken rfl C__law_taken.m C__law_taken.k C__law_taken.b .nil pass0 (pa_cons (pv 1) (pa_cons (pe_callB call_len_seq (by rfl) mb_len PySem.boot_len (pa_cons (pv 5) pa_nil)) pa_nil))) pa_nil)) pa_nil)))))
      (pss_cons (ps_set (i := 7) nd rfl (.inl rfl) (pe_tup (pa_cons (pe_callTy call_list_of (by rfl) mb_list (by decide +kernel) (pa_cons (pv 4) pa_nil)) (pa_cons (pe_callTy call_list_of (by rfl) mb_list (by decide +kernel) (pa_cons (pv 6) pa_nil)) pa_nil))))
      (pss_one (ps_for PassesOwn.never rfl (pi_range1 rfl mb_range (pa_cons pe_int pa_nil)) (pg_name (i := 8) nd rfl (.inl rfl))
        (pss_cons (ps_set (i := 9) nd rfl (.inl rfl) (pe_call G_by_order hr_by_order rfl C_by_order.m C_by_order.k C_by_order.b .nil pass0 (pa_cons (pv 3) (pa_cons (pe_ix (r := rIxT K) ix_tup (pv 7) pe_int (fun _ _ => rfl)) (pa_cons (pe_ix (r := rIxT K) ix_tup (pv 7) pe_int (fun _ _ => rfl)) pa_nil)))))
      (pss_cons (ps_if (PW.pt (pw_or (pt_not (pt_val (pe_call G__law_alike hr__law_alike rfl C__law_alike.m C__law_alike.k C__law_alike.b .nil pass0 (pa_cons (pv 9) (pa_cons (pe_call G__law_ordered hr__law_ordered rfl C__law_ordered.m C__law_ordered.k C__law_ordered.b .nil pass0 (pa_cons (pv 3) (pa_cons (pv 4) (pa_cons (pv 6) pa_nil)))) pa_nil))))) (pw_or1 (pt_cmpR (op_neD hr.units) (pv 7) (pe_tup (pa_cons (pv 4) (pa_cons (pv 6) pa_nil))) (nomark _))))) (pss_one (ps_ret pe_bl)) pss_nil)
      (pss_one (ps_expr (pe_bm PySem.F.plainAttrs_list PySem.F.slot_list_append PySem.F.type_list_append mt_append (pe_ix (r := rIxT K) ix_tup (pv 9) pe_int (fun _ _ => rfl)) (pa_cons (pe_tup (pa_cons pe_int (pa_cons pe_int pa_nil))) pa_nil)))))))))))))))
      (pss_one (ps_ret pe_bl)))), ?_⟩
    refine ⟨_, rfl, (by show 3 ≤ sizeLine; decide), fun r hr0 => ?_⟩
    have hR0 := row_start hS hr0
    refine ⟨4, rfl, by decide, by decide, ?_⟩
    refine for_range (lo := 0) (n := 4) (fun i σ H' => RowAt K H' r ∧ ∃ v2 v3 v4 v5 v6 v7 v8 v9, σ = [some (.ref a), some (.ref r), v2, v3, v4, v5, v6, v7, v8, v9]) ⟨hR0, none, none, none, none, none, none, none, none, rfl⟩ ?_ ?_
    · rintro i σ H0 hi ⟨hR, v2, v3, v4, v5, v6, v7, v8, v9, rfl⟩
      -- the disk, the asks
      refine ⟨_, rfl, r, rfl, hR, fun H1 pd d g hR1 sb1 npd ed => ?_⟩
      refine ⟨_, rfl, _, rfl, (by show 2 ≤ sizeLine; decide), fun L hL => ?_⟩
      have nL := hR1.ne hL
      refine ⟨_, rfl, r, 2, rfl, hR1.but (same_new hL), by decide, fun H2 z z0 z1 hR2 sb2 => ?_⟩
      have eL : H2 L = some (.lst [.int 6, .int 40]) := sb2 _ _ nL upd_same
      have ed2 : H2 pd = some (.tup ([d.tr, d.sc, d.pa, d.he].map V.int)) := sb2 _ _ npd (same_new hL _ _ ed)
      obtain ⟨k, hk, k0, k40⟩ : ∃ k : Int, atI [V.int 6, .int 40] z = some (.int k) ∧ 0 ≤ k ∧ k ≤ 40 := by
        rcases (by omega : z = 0 ∨ z = 1) with rfl | rfl
        · exact ⟨6, rfl, by decide⟩
        · exact ⟨40, rfl, by decide⟩
      have dpd2 : Dp K (wo H2 r) (.ref pd) (dDisk d) := dp_tints_of (.inl (.inl (by rw [wo_ne npd]; exact ed2)))
      refine ⟨L, _, z, _, rfl, rfl, SqL.of eL, hk, r, .ref pd, d, k, rfl, hR2, dpd2, g, k0, k40, fun H3 pa l xs ga hl hR3 sb3 npa hpa0 epa hda => ?_⟩
      have h40 := ga.len
      have dpd3 : Dp K (wo H3 r) (.ref pd) (dDisk d) := dp_same (sb_wo sb3) dpd2
      have dpa3 : Dp K (wo H3 r) (.ref pa) (dAsks l) := .lst (.inl (.inl (by rw [wo_ne npa]; exact epa))) (dpa_same wo_sub hda)
      have hxl : xs.length = l.length := by rw [dpa_len hda, List.length_map]
      -- left, order
      refine ⟨_, rfl, pa, xs, rfl, .inl (SqL.of epa), _, rfl, RgOk.of_le (by decide) (by rw [hxl]; omega) (by decide) (by omega), fun Lf hLf => ?_⟩
      rw [show rgV 0 (xs.length : Int) = (nints (List.range l.length)).map V.int by rw [hxl]; exact rg_nints _]
      refine ⟨Nat.zero_le _, fun Or hOr => ?_⟩
      have nLf : Lf ≠ r := hR3.ne hLf
      have nLO : Lf ≠ Or := ne_of_none upd_same hOr
      have hOr3 : H3 Or = none := (same_new hLf).free hOr
      have nOr : Or ≠ r := hR3.ne hOr3
      -- what stands: all of H3 but the row
      have G0r : wo H3 r r = none := wo_at
      have G0L : wo H3 r Lf = none := by rw [wo_ne nLf]; exact hLf
      have G0O : wo H3 r Or = none := by rw [wo_ne nOr]; exact hOr3
      refine ⟨fun m σ H' => Same (wo H3 r) H' ∧ RowAt K H' r ∧ ∃ lf od : List Nat, σ = [some (.ref a), some (.ref r), some (.int (0 + (i : Int))), some (.ref pd), some (.ref pa), some (.ref Lf), some (.ref Or), v7, v8, v9] ∧
          H' Lf = some (.lst ((nints lf).map V.int)) ∧ H' Or = some (.lst ((nints od).map V.int)) ∧ (lf ++ od).Perm (List.range l.length) ∧ m = lf.length,
        ⟨_, (same_upd (same_upd wo_sub G0L) G0O), (hR3.but (same_new hLf)).but (same_new hOr), List.range l.length, [], rfl, by rw [upd_ne nLO]; exact upd_same, upd_same, by rw [List.append_nil], rfl⟩, ?_⟩
      rintro m σ H4 ⟨s4, hR4, lf, od, rfl, eL4, eO4, hperm, rfl⟩
      have hlen : lf.length + od.length = l.length := by
        have := hperm.length_eq
        rw [List.length_append, List.length_range] at this
        exact this
      refine ⟨_, rfl, Nat.zero_le _, fun e he => ?_⟩
      have se := same_new (o := .lst []) he
      refine ⟨.list ((nints lf).map PyData.int), .list [], dp_ints_of (SqL.of (se _ _ eL4)), .lst (SqL.of upd_same) .nil, shaped_ints _, rfl, _, rfl, ?_⟩
      rw [eqv_nil]
      have neL : Lf ≠ e := ne_of_none eL4 he
      have neO : Or ≠ e := ne_of_none eO4 he
      refine ite2 (fun hne => ?_) (fun hnil => ?_)
      · -- one more is drawn
        have hne' : lf ≠ [] := fun z => by
          subst z
          cases hne
        have hpos : 0 < lf.length := List.length_pos_iff.mpr hne'
        refine ⟨fun σ' H' => Same (wo H3 r) H' ∧ RowAt K H' r ∧ ∃ lf' od' : List Nat, σ' = [some (.ref a), some (.ref r), some (.int (0 + (i : Int))), some (.ref pd), some (.ref pa), some (.ref Lf), some (.ref Or), v7, v8, v9] ∧
          H' Lf = some (.lst ((nints lf').map V.int)) ∧ H' Or = some (.lst ((nints od').map V.int)) ∧ (lf' ++ od').Perm (List.range l.length) ∧ lf'.length < lf.length, ?_, ?_⟩
        · rintro σ' H' ⟨s', hR', lf', od', rfl, e1, e2, e3, e4⟩
          exact ⟨_, e4, s', hR', lf', od', rfl, e1, e2, e3, rfl⟩
        · have eLe := se _ _ eL4
          have eOe := se _ _ eO4
          refine ⟨_, rfl, .inl ⟨rfl, _, SqL.of eOe⟩, _, rfl, .inl ⟨rfl, _, SqL.of eLe⟩, _, rfl, _, rfl, Lf, _, rfl, .inl (SqL.of eLe), ?_⟩
          refine ⟨r, _, rfl, hR4.but se, by rw [List.length_map, nints_len]; omega, fun H5 j j0 j1 hR5 sb5 => ?_⟩
          rw [List.length_map, nints_len] at j1
          have eL5 := sb5 _ _ nLf eLe
          have eO5 := sb5 _ _ nOr eOe
          have hj : j.toNat < lf.length := by omega
          obtain ⟨n, hn⟩ : ∃ n, lf[j.toNat]? = some n := ⟨_, List.getElem?_eq_getElem hj⟩
          refine ⟨Lf, _, j, j.toNat, .int (n : Int), rfl, rfl, eL5, by omega, by omega, ?_, nints_get hn, ?_⟩
          · unfold seqIndex?
            rw [List.length_map, nints_len]
            have e1 : ¬ j < 0 := by omega
            have e2 : (decide (0 ≤ j) && decide (j < (lf.length : Int))) = true := by
              rw [decide_eq_true j0, decide_eq_true (by omega : j < (lf.length : Int))]
              rfl
            simp only [e1, if_false, e2, if_true]
          refine ⟨Or, _, _, rfl, rfl, by rw [upd_ne nLO.symm]; exact eO5, small1000 (by rw [List.length_map, nints_len]; omega), ?_⟩
          have sG := same_upd (o := .lst (((nints lf).map V.int).eraseIdx j.toNat)) (same_sb (s4.trans se) G0r sb5) G0L
          refine ⟨same_upd sG G0O, ?_, lf.eraseIdx j.toNat, od ++ [n], rfl, ?_, ?_, ?_, ?_⟩
          · exact (hR5.put nLf eL5).put nOr (by rw [upd_ne nLO.symm]; exact eO5)
          · rw [upd_ne nLO, upd_same]
            unfold nints
            rw [List.map_map, List.map_map, map_erase]
          · rw [upd_same]
            unfold nints
            rw [List.map_append, List.map_append]
            rfl
          · have p1 : lf.Perm (n :: lf.eraseIdx j.toNat) := by
              exact (erase_perm hn).symm
            refine List.Perm.trans ?_ hperm
            have p2 : (lf.eraseIdx j.toNat ++ (od ++ [n])).Perm (n :: (lf.eraseIdx j.toNat ++ od)) := by
              rw [← List.append_assoc]
              exact List.perm_append_singleton _ _
            exact p2.trans ((p1.append_right od).symm)
          · rw [List.length_eraseIdx_of_lt hj]
            omega
      · -- all drawn: the order
        have e0 : lf = [] := by
          cases lf with
          | nil => rfl
          | cons x y => exact absurd rfl hnil
        subst e0
        rw [List.nil_append] at hperm
        have hol : od.length = l.length := by
          have := hperm.length_eq
          rw [List.length_range] at this
          exact this
        have hmem : ∀ i ∈ od, i < l.length := fun i hi => List.mem_range.mp (hperm.mem_iff.mp hi)
        have eOe := se _ _ eO4
        have hRe := hR4.but se
        have sGe := s4.trans se
        have ePa5 : upd H4 e (.lst []) pa = some (.lst xs) := sGe _ _ (by rw [wo_ne npa]; exact epa)
        refine ⟨_, rfl, pa, xs, rfl, .inl (SqL.of ePa5), fun A2 hA2 => ?_⟩
        have sA := same_new (o := .lst xs) hA2
        refine ⟨_, rfl, Or, _, rfl, .inl (SqL.of (sA _ _ eOe)), fun O2 hO2 => ⟨(by show 2 ≤ sizeLine; decide), fun T hT => ?_⟩⟩
        have sO := same_new (o := .lst ((nints od).map V.int)) hO2
        have sT := same_new (o := .tup [.ref A2, .ref O2]) hT
        have eT : upd (upd (upd (upd H4 e (.lst [])) A2 (.lst xs)) O2 (.lst ((nints od).map V.int))) T (.tup [.ref A2, .ref O2]) T = some (.tup [.ref A2, .ref O2]) := upd_same
        have eA : upd (upd (upd (upd H4 e (.lst [])) A2 (.lst xs)) O2 (.lst ((nints od).map V.int))) T (.tup [.ref A2, .ref O2]) A2 = some (.lst xs) := sT _ _ (sO _ _ upd_same)
        have eO : upd (upd (upd (upd H4 e (.lst [])) A2 (.lst xs)) O2 (.lst ((nints od).map V.int))) T (.tup [.ref A2, .ref O2]) O2 = some (.lst ((nints od).map V.int)) := sT _ _ upd_same
        have eOr : upd (upd (upd (upd H4 e (.lst [])) A2 (.lst xs)) O2 (.lst ((nints od).map V.int))) T (.tup [.ref A2, .ref O2]) Or = some (.lst ((nints od).map V.int)) := sT _ _ (sO _ _ (sA _ _ eOe))
        have sAll := sA.trans (sO.trans sT)
        have sG := sGe.trans sAll
        have hR5 := hRe.but sAll
        have nT : T ≠ r := (hRe.but (sA.trans sO)).ne hT
        have nA : A2 ≠ r := hRe.ne hA2
        have nO : O2 ≠ r := (hRe.but sA).ne hO2
        revert eT eA eO eOr sG hR5
        generalize upd (upd (upd (upd H4 e (.lst [])) A2 (.lst xs)) O2 (.lst ((nints od).map V.int))) T (.tup [.ref A2, .ref O2]) = H5
        intro eT eA eO eOr sG hR5
        have sW : Same (wo H3 r) (wo H5 r) := into_wo sG wo_at
        have dpd : Dp K (wo H5 r) (.ref pd) (dDisk d) := dp_same sW dpd3
        have dpa : Dp K (wo H5 r) (.ref pa) (dAsks l) := dp_same sW dpa3
        have dod : Dp K (wo H5 r) (.ref Or) (.list ((nints od).map PyData.int)) := dp_ints_of (SqL.of (by rw [wo_ne nOr]; exact eOr))
        have dA2 : Dp K (wo H5 r) (.ref A2) (dAsks l) := .lst (SqL.of (by rw [wo_ne nA]; exact eA)) (dpa_same (wo_sub.trans sW) hda)
        have dO2 : Dp K (wo H5 r) (.ref O2) (.list ((nints od).map PyData.int)) := dp_ints_of (SqL.of (by rw [wo_ne nO]; exact eO))
        have gT : wo H5 r T = some (.tup [.ref A2, .ref O2]) := by rw [wo_ne nT]; exact eT
        have dT : Dp K (wo H5 r) (.ref T) (.tuple [dAsks l, .list ((nints od).map PyData.int)]) := .tup (SqT.of gT) (.cons dA2 (.cons dO2 .nil))
        refine ⟨2, rfl, by decide, by decide, ?_⟩
        refine for_range (lo := 0) (n := 2) (fun j σ H' => Same (wo H5 r) H' ∧ RowAt K H' r ∧ ∃ v8 v9, σ = [some (.ref a), some (.ref r), some (.int (0 + (i : Int))), some (.ref pd), some (.ref pa), some (.ref Lf), some (.ref Or), some (.ref T), v8, v9]) ⟨wo_sub, hR5, _, _, rfl⟩ ?_ ?_
        · rintro j σ H6 hj ⟨s6, hR6, v8, v9, rfl⟩
          have eT6 := s6 _ _ gT
          refine ⟨_, rfl, _, rfl, T, _, 0, _, rfl, rfl, SqT.of eT6, atI_nat (j := 0) rfl, _, rfl, T, _, 1, _, rfl, rfl, SqT.of eT6, atI_nat (j := 1) rfl, ?_⟩
          refine ⟨.ref pd, .ref A2, .ref O2, d, l, od, rfl, dp_same s6 dpd, dp_same s6 dA2, dp_same s6 dO2, g, ga, hperm, fun H7 p c t ys res => ?_⟩
          have s7 := s6.trans res.same
          refine ⟨_, rfl, _, rfl, _, rfl, _, rfl, .ref pd, .ref pa, .ref Or, d, l, od, rfl, dp_same s7 dpd, dp_same s7 dpa, dp_same s7 dod, g, ga, hmem, by omega, fun H8 p2 c2 t2 ys2 res2 => ?_⟩
          have s8 := s7.trans res2.same
          refine ⟨.ref p, .ref p2, dRes (rowsOf d l 0 d.he od) (costsOf d l (rowsOf d l 0 d.he od)), rfl, dp_same (nw_sub.trans res2.same) res.dp, dp_same nw_sub res2.dp, okD_res 0 _ _ (by rw [rowsOf_len]; omega), fun H9 s9 => ⟨_, rfl, iteF ?_⟩⟩
          have s89 := s8.trans s9
          refine ⟨_, rfl, _, rfl, _, rfl, (by show 2 ≤ sizeLine; decide), fun z hz => ?_⟩
          have sz := same_new (o := .tup [.ref pa, .ref Or]) hz
          have s10 := s89.trans sz
          refine ⟨.tuple [dAsks l, .list ((nints od).map PyData.int)], .tuple [dAsks l, .list ((nints od).map PyData.int)], dp_same s10 dT, .tup (SqT.of upd_same) (.cons (dp_same s10 dpa) (.cons (dp_same s10 dod) .nil)), shaped_handed _ _, shaped_handed _ _, _, rfl, ?_⟩
          rw [SeqAt.eqv_refl _ (SeqAt.canLay_of_shaped (shaped_handed _ _))]
          refine iteF ?_
          have sres := res2.same.trans (s9.trans sz)
          have ep := sres _ _ res.hp
          have ec := sres _ _ res.hc
          refine ⟨_, rfl, p, _, 0, _, rfl, rfl, SqT.of ep, atI_nat (j := 0) rfl, .inl ⟨rfl, _, SqL.of ec⟩, (by show 2 ≤ sizeLine; decide), fun t3 ht3 => ?_⟩
          have nc3 : c ≠ t3 := ne_of_none ec ht3
          have hyl : ys.length ≤ 40 := by
            rw [dpa_len res.rows, List.length_map, rowsOf_len]
            omega
          refine ⟨c, ys, .ref t3, rfl, rfl, by rw [upd_ne nc3]; exact ec, small1000 (by omega), ?_⟩
          have hc5 : wo H5 r c = none := s6.free res.c0
          have ncr : c ≠ r := hR6.ne res.c0
          have st3 := same_new (o := .tup [.int 0, .int 0]) ht3
          refine ⟨same_upd (s10.trans st3) hc5, ?_, _, _, rfl⟩
          exact ((hR6.but res.same).but (sres.trans st3)).put ncr (st3 _ _ ec)
        · rintro σ H6 ⟨s6, hR6, v8, v9, rfl⟩
          exact ⟨hR6, _, _, _, _, _, _, _, _, rfl⟩
    · rintro σ H' ⟨hR, _⟩
      exact q _
end
end Ag

namespace Ag
open PySem PySem.Spec PyProof.Rows L2
/-! ### the end: what the top has written -/
set_option maxHeartbeats 16000000 in
theorem all_mk {l : PySem.W.OpenLaw} {w : World} {K : PySem.W.Frag} {h : Heap} {mg : Str → Option Value} {fa f_need_disk f_need_asks f_served f_served_in f_costs_of f_need_order f_by_order f__law_taken f__law_alike f__law_disk f__law_asks f__law_served f__law_ordered f_law : Addr} (X : K.In h) (G : h.Ns mainGlobals mg) (hfa : mg "law" = some (.ref fa))
    {od_need_disk an_need_disk od_need_asks an_need_asks od_served an_served od_served_in an_served_in od_costs_of an_costs_of od_need_order an_need_order od_by_order an_by_order od__law_taken an__law_taken od__law_alike an__law_alike od__law_disk an__law_disk od__law_asks an__law_asks od__law_served an__law_served od__law_ordered an__law_ordered od_law an_law : Option Addr} {sl_need_disk sl_need_asks sl_served sl_served_in sl_costs_of sl_need_order sl_by_order sl__law_taken sl__law_alike sl__law_disk sl__law_asks sl__law_served sl__law_ordered sl_law : Array (Option Value)} {oc_need_disk kV_need_disk dc_need_disk pm_need_disk cd_need_disk ct_need_disk oc_need_asks kV_need_asks dc_need_asks pm_need_asks cd_need_asks ct_need_asks oc_served kV_served dc_served pm_served cd_served ct_served oc_served_in kV_served_in dc_served_in pm_served_in cd_served_in ct_served_in oc_costs_of kV_costs_of dc_costs_of pm_costs_of cd_costs_of ct_costs_of oc_need_order kV_need_order dc_need_order pm_need_order cd_need_order ct_need_order oc_by_order kV_by_order dc_by_order pm_by_order cd_by_order ct_by_order oc__law_taken kV__law_taken dc__law_taken pm__law_taken cd__law_taken ct__law_taken oc__law_alike kV__law_alike dc__law_alike pm__law_alike cd__law_alike ct__law_alike oc__law_disk kV__law_disk dc__law_disk pm__law_disk cd__law_disk ct__law_disk oc__law_asks kV__law_asks dc__law_asks pm__law_asks cd__law_asks ct__law_asks oc__law_served kV__law_served dc__law_served pm__law_served cd__law_served ct__law_served oc__law_ordered kV__law_ordered dc__law_ordered pm__law_ordered cd__law_ordered ct__law_ordered oc_law kV_law dc_law pm_law cd_law ct_law : Value} {t_MOST_ASKS t_MOST_COME t_MOST_PACE t_MOST_SECTORS t_MOST_TRACKS : Tok}
    (a_need_disk : PySem.W.nsIn K mainGlobals "need_disk" = some (some (.ref f_need_disk))) (l_need_disk : K.lookup f_need_disk = some ⟨oc_need_disk, od_need_disk, .func (PySem.W.fnOf "need_disk" "need_disk" (defArgs s_need_disk) (defBody s_need_disk) (defScope s_need_disk) .none kV_need_disk dc_need_disk pm_need_disk an_need_disk cd_need_disk ct_need_disk), sl_need_disk⟩) (c_need_disk : PySem.W.codeIn K cd_need_disk "need_disk" = true) (k_need_disk : PySem.W.keepIn K (.ref f_need_disk) = true)
    (a_need_asks : PySem.W.nsIn K mainGlobals "need_asks" = some (some (.ref f_need_asks))) (l_need_asks : K.lookup f_need_asks = some ⟨oc_need_asks, od_need_asks, .func (PySem.W.fnOf "need_asks" "need_asks" (defArgs s_need_asks) (defBody s_need_asks) (defScope s_need_asks) .none kV_need_asks dc_need_asks pm_need_asks an_need_asks cd_need_asks ct_need_asks), sl_need_asks⟩) (c_need_asks : PySem.W.codeIn K cd_need_asks "need_asks" = true) (k_need_asks : PySem.W.keepIn K (.ref f_need_asks) = true)
    (a_served : PySem.W.nsIn K mainGlobals "served" = some (some (.ref f_served))) (l_served : K.lookup f_served = some ⟨oc_served, od_served, .func (PySem.W.fnOf "served" "served" (defArgs s_served) (defBody s_served) (defScope s_served) .none kV_served dc_served pm_served an_served cd_served ct_served), sl_served⟩) (c_served : PySem.W.codeIn K cd_served "served" = true) (k_served : PySem.W.keepIn K (.ref f_served) = true)
    (a_served_in : PySem.W.nsIn K mainGlobals "served_in" = some (some (.ref f_served_in))) (l_served_in : K.lookup f_served_in = some ⟨oc_served_in, od_served_in, .func (PySem.W.fnOf "served_in" "served_in" (defArgs s_served_in) (defBody s_served_in) (defScope s_served_in) .none kV_served_in dc_served_in pm_served_in an_served_in cd_served_in ct_served_in), sl_served_in⟩) (c_served_in : PySem.W.codeIn K cd_served_in "served_in" = true) (k_served_in : PySem.W.keepIn K (.ref f_served_in) = true)
    (a_costs_of : PySem.W.nsIn K mainGlobals "costs_of" = some (some (.ref f_costs_of))) (l_costs_of : K.lookup f_costs_of = some ⟨oc_costs_of, od_costs_of, .func (PySem.W.fnOf "costs_of" "costs_of" (defArgs s_costs_of) (defBody s_costs_of) (defScope s_costs_of) .none kV_costs_of dc_costs_of pm_costs_of an_costs_of cd_costs_of ct_costs_of), sl_costs_of⟩) (c_costs_of : PySem.W.codeIn K cd_costs_of "costs_of" = true) (k_costs_of : PySem.W.keepIn K (.ref f_costs_of) = true)
    (a_need_order : PySem.W.nsIn K mainGlobals "need_order" = some (some (.ref f_need_order))) (l_need_order : K.lookup f_need_order = some ⟨oc_need_order, od_need_order, .func (PySem.W.fnOf "need_order" "need_order" (defArgs s_need_order) (defBody s_need_order) (defScope s_need_order) .none kV_need_order dc_need_order pm_need_order an_need_order cd_need_order ct_need_order), sl_need_order⟩) (c_need_order : PySem.W.codeIn K cd_need_order "need_order" = true) (k_need_order : PySem.W.keepIn K (.ref f_need_order) = true)
    (a_by_order : PySem.W.nsIn K mainGlobals "by_order" = some (some (.ref f_by_order))) (l_by_order : K.lookup f_by_order = some ⟨oc_by_order, od_by_order, .func (PySem.W.fnOf "by_order" "by_order" (defArgs s_by_order) (defBody s_by_order) (defScope s_by_order) .none kV_by_order dc_by_order pm_by_order an_by_order cd_by_order ct_by_order), sl_by_order⟩) (c_by_order : PySem.W.codeIn K cd_by_order "by_order" = true) (k_by_order : PySem.W.keepIn K (.ref f_by_order) = true)
    (a__law_taken : PySem.W.nsIn K mainGlobals "_law_taken" = some (some (.ref f__law_taken))) (l__law_taken : K.lookup f__law_taken = some ⟨oc__law_taken, od__law_taken, .func (PySem.W.fnOf "_law_taken" "_law_taken" (defArgs s_l_taken) (defBody s_l_taken) (defScope s_l_taken) .none kV__law_taken dc__law_taken pm__law_taken an__law_taken cd__law_taken ct__law_taken), sl__law_taken⟩) (c__law_taken : PySem.W.codeIn K cd__law_taken "_law_taken" = true) (k__law_taken : PySem.W.keepIn K (.ref f__law_taken) = true)
    (a__law_alike : PySem.W.nsIn K mainGlobals "_law_alike" = some (some (.ref f__law_alike))) (l__law_alike : K.lookup f__law_alike = some ⟨oc__law_alike, od__law_alike, .func (PySem.W.fnOf "_law_alike" "_law_alike" (defArgs s_l_alike) (defBody s_l_alike) (defScope s_l_alike) .none kV__law_alike dc__law_alike pm__law_alike an__law_alike cd__law_alike ct__law_alike), sl__law_alike⟩) (c__law_alike : PySem.W.codeIn K cd__law_alike "_law_alike" = true) (k__law_alike : PySem.W.keepIn K (.ref f__law_alike) = true)
    (a__law_disk : PySem.W.nsIn K mainGlobals "_law_disk" = some (some (.ref f__law_disk))) (l__law_disk : K.lookup f__law_disk = some ⟨oc__law_disk, od__law_disk, .func (PySem.W.fnOf "_law_disk" "_law_disk" (defArgs s_l_disk) (defBody s_l_disk) (defScope s_l_disk) .none kV__law_disk dc__law_disk pm__law_disk an__law_disk cd__law_disk ct__law_disk), sl__law_disk⟩) (c__law_disk : PySem.W.codeIn K cd__law_disk "_law_disk" = true) (k__law_disk : PySem.W.keepIn K (.ref f__law_disk) = true)
    (a__law_asks : PySem.W.nsIn K mainGlobals "_law_asks" = some (some (.ref f__law_asks))) (l__law_asks : K.lookup f__law_asks = some ⟨oc__law_asks, od__law_asks, .func (PySem.W.fnOf "_law_asks" "_law_asks" (defArgs s_l_asks) (defBody s_l_asks) (defScope s_l_asks) .none kV__law_asks dc__law_asks pm__law_asks an__law_asks cd__law_asks ct__law_asks), sl__law_asks⟩) (c__law_asks : PySem.W.codeIn K cd__law_asks "_law_asks" = true) (k__law_asks : PySem.W.keepIn K (.ref f__law_asks) = true)
    (a__law_served : PySem.W.nsIn K mainGlobals "_law_served" = some (some (.ref f__law_served))) (l__law_served : K.lookup f__law_served = some ⟨oc__law_served, od__law_served, .func (PySem.W.fnOf "_law_served" "_law_served" (defArgs s_l_served) (defBody s_l_served) (defScope s_l_served) .none kV__law_served dc__law_served pm__law_served an__law_served cd__law_served ct__law_served), sl__law_served⟩) (c__law_served : PySem.W.codeIn K cd__law_served "_law_served" = true) (k__law_served : PySem.W.keepIn K (.ref f__law_served) = true)
    (a__law_ordered : PySem.W.nsIn K mainGlobals "_law_ordered" = some (some (.ref f__law_ordered))) (l__law_ordered : K.lookup f__law_ordered = some ⟨oc__law_ordered, od__law_ordered, .func (PySem.W.fnOf "_law_ordered" "_law_ordered" (defArgs s_l_ordered) (defBody s_l_ordered) (defScope s_l_ordered) .none kV__law_ordered dc__law_ordered pm__law_ordered an__law_ordered cd__law_ordered ct__law_ordered), sl__law_ordered⟩) (c__law_ordered : PySem.W.codeIn K cd__law_ordered "_law_ordered" = true) (k__law_ordered : PySem.W.keepIn K (.ref f__law_ordered) = true)
    (a_law : PySem.W.nsIn K mainGlobals "law" = some (some (.ref f_law))) (l_law : K.lookup f_law = some ⟨oc_law, od_law, .func (PySem.W.fnOf "law" "law" (defArgs s_law) (defBody s_law) (defScope s_law) .none kV_law dc_law pm_law an_law cd_law ct_law), sl_law⟩) (c_law : PySem.W.codeIn K cd_law "law" = true) (k_law : PySem.W.keepIn K (.ref f_law) = true)
    (y_abs : PySem.W.nsIn K mainGlobals "abs" = some none)
    (y_bool : PySem.W.nsIn K mainGlobals "bool" = some none)
    (y_int : PySem.W.nsIn K mainGlobals "int" = some none)
    (y_isinstance : PySem.W.nsIn K mainGlobals "isinstance" = some none)
    (y_len : PySem.W.nsIn K mainGlobals "len" = some none)
    (y_list : PySem.W.nsIn K mainGlobals "list" = some none)
    (y_max : PySem.W.nsIn K mainGlobals "max" = some none)
    (y_min : PySem.W.nsIn K mainGlobals "min" = some none)
    (y_range : PySem.W.nsIn K mainGlobals "range" = some none)
    (y_sorted : PySem.W.nsIn K mainGlobals "sorted" = some none)
    (y_str : PySem.W.nsIn K mainGlobals "str" = some none)
    (y_sum : PySem.W.nsIn K mainGlobals "sum" = some none)
    (y_tuple : PySem.W.nsIn K mainGlobals "tuple" = some none)
    (y_MOST_ASKS : PySem.W.nsIn K mainGlobals "MOST_ASKS" = some (some (.int 40 t_MOST_ASKS)))
    (y_MOST_COME : PySem.W.nsIn K mainGlobals "MOST_COME" = some (some (.int 999 t_MOST_COME)))
    (y_MOST_PACE : PySem.W.nsIn K mainGlobals "MOST_PACE" = some (some (.int 4 t_MOST_PACE)))
    (y_MOST_SECTORS : PySem.W.nsIn K mainGlobals "MOST_SECTORS" = some (some (.int 16 t_MOST_SECTORS)))
    (y_MOST_TRACKS : PySem.W.nsIn K mainGlobals "MOST_TRACKS" = some (some (.int 64 t_MOST_TRACKS)))
    : ∃ fd : FuncData, (∀ (s : Shared) (v : Value), BindsTo s fd ⟨[v], []⟩ [("_law_script", v)]) ∧ ∀ base : Heap, K.In base → base.Ns mainGlobals mg → FnOk l.prog w K mg base CX0 6 fa fd ["_law_script"] (sp_law K) := by
  have e := hfa.symm.trans (PySem.W.mg_of X G a_law)
  cases e
  have z_abs := PySem.W.mg_none_of X G y_abs
  have z_bool := PySem.W.mg_none_of X G y_bool
  have z_int := PySem.W.mg_none_of X G y_int
  have z_isinstance := PySem.W.mg_none_of X G y_isinstance
  have z_len := PySem.W.mg_none_of X G y_len
  have z_list := PySem.W.mg_none_of X G y_list
  have z_max := PySem.W.mg_none_of X G y_max
  have z_min := PySem.W.mg_none_of X G y_min
  have z_range := PySem.W.mg_none_of X G y_range
  have z_sorted := PySem.W.mg_none_of X G y_sorted
  have z_str := PySem.W.mg_none_of X G y_str
  have z_sum := PySem.W.mg_none_of X G y_sum
  have z_tuple := PySem.W.mg_none_of X G y_tuple
  have c_MOST_ASKS := PySem.W.mg_of X G y_MOST_ASKS
  have c_MOST_COME := PySem.W.mg_of X G y_MOST_COME
  have c_MOST_PACE := PySem.W.mg_of X G y_MOST_PACE
  have c_MOST_SECTORS := PySem.W.mg_of X G y_MOST_SECTORS
  have c_MOST_TRACKS := PySem.W.mg_of X G y_MOST_TRACKS
  have F_need_disk := fun_mk (st := s_need_disk) l_need_disk c_need_disk k_need_disk
  have b_need_disk := F_need_disk.binds (ps := ["disk"]) fun _ _ _ _ _ _ us hl => match us, hl with | [_], _ => rfl
  have C_need_disk : Cal K mg "need_disk" f_need_disk _ ["disk"] := ⟨PySem.W.mg_of X G a_need_disk, k_need_disk, b_need_disk⟩
  have F_need_asks := fun_mk (st := s_need_asks) l_need_asks c_need_asks k_need_asks
  have b_need_asks := F_need_asks.binds (ps := ["disk", "asks"]) fun _ _ _ _ _ _ us hl => match us, hl with | [_, _], _ => rfl
  have C_need_asks : Cal K mg "need_asks" f_need_asks _ ["disk", "asks"] := ⟨PySem.W.mg_of X G a_need_asks, k_need_asks, b_need_asks⟩
  have F_served := fun_mk (st := s_served) l_served c_served k_served
  have b_served := F_served.binds (ps := ["disk", "now", "here", "ask"]) fun _ _ _ _ _ _ us hl => match us, hl with | [_, _, _, _], _ => rfl
  have C_served : Cal K mg "served" f_served _ ["disk", "now", "here", "ask"] := ⟨PySem.W.mg_of X G a_served, k_served, b_served⟩
  have F_served_in := fun_mk (st := s_served_in) l_served_in c_served_in k_served_in
  have b_served_in := F_served_in.binds (ps := ["disk", "asks", "order"]) fun _ _ _ _ _ _ us hl => match us, hl with | [_, _, _], _ => rfl
  have C_served_in : Cal K mg "served_in" f_served_in _ ["disk", "asks", "order"] := ⟨PySem.W.mg_of X G a_served_in, k_served_in, b_served_in⟩
  have F_costs_of := fun_mk (st := s_costs_of) l_costs_of c_costs_of k_costs_of
  have b_costs_of := F_costs_of.binds (ps := ["disk", "asks", "rows"]) fun _ _ _ _ _ _ us hl => match us, hl with | [_, _, _], _ => rfl
  have C_costs_of : Cal K mg "costs_of" f_costs_of _ ["disk", "asks", "rows"] := ⟨PySem.W.mg_of X G a_costs_of, k_costs_of, b_costs_of⟩
  have F_need_order := fun_mk (st := s_need_order) l_need_order c_need_order k_need_order
  have b_need_order := F_need_order.binds (ps := ["asks", "order"]) fun _ _ _ _ _ _ us hl => match us, hl with | [_, _], _ => rfl
  have C_need_order : Cal K mg "need_order" f_need_order _ ["asks", "order"] := ⟨PySem.W.mg_of X G a_need_order, k_need_order, b_need_order⟩
  have F_by_order := fun_mk (st := s_by_order) l_by_order c_by_order k_by_order
  have b_by_order := F_by_order.binds (ps := ["disk", "asks", "order"]) fun _ _ _ _ _ _ us hl => match us, hl with | [_, _, _], _ => rfl
  have C_by_order : Cal K mg "by_order" f_by_order _ ["disk", "asks", "order"] := ⟨PySem.W.mg_of X G a_by_order, k_by_order, b_by_order⟩
  have F__law_taken := fun_mk (st := s_l_taken) l__law_taken c__law_taken k__law_taken
  have b__law_taken := F__law_taken.binds (ps := ["_law_row", "_law_many"]) fun _ _ _ _ _ _ us hl => match us, hl with | [_, _], _ => rfl
  have C__law_taken : Cal K mg "_law_taken" f__law_taken _ ["_law_row", "_law_many"] := ⟨PySem.W.mg_of X G a__law_taken, k__law_taken, b__law_taken⟩
  have F__law_alike := fun_mk (st := s_l_alike) l__law_alike c__law_alike k__law_alike
  have b__law_alike := F__law_alike.binds (ps := ["_law_found", "_law_due"]) fun _ _ _ _ _ _ us hl => match us, hl with | [_, _], _ => rfl
  have C__law_alike : Cal K mg "_law_alike" f__law_alike _ ["_law_found", "_law_due"] := ⟨PySem.W.mg_of X G a__law_alike, k__law_alike, b__law_alike⟩
  have F__law_disk := fun_mk (st := s_l_disk) l__law_disk c__law_disk k__law_disk
  have b__law_disk := F__law_disk.binds (ps := ["_law_row"]) fun _ _ _ _ _ _ us hl => match us, hl with | [_], _ => rfl
  have C__law_disk : Cal K mg "_law_disk" f__law_disk _ ["_law_row"] := ⟨PySem.W.mg_of X G a__law_disk, k__law_disk, b__law_disk⟩
  have F__law_asks := fun_mk (st := s_l_asks) l__law_asks c__law_asks k__law_asks
  have b__law_asks := F__law_asks.binds (ps := ["_law_row", "_law_disk_here", "_law_most"]) fun _ _ _ _ _ _ us hl => match us, hl with | [_, _, _], _ => rfl
  have C__law_asks : Cal K mg "_law_asks" f__law_asks _ ["_law_row", "_law_disk_here", "_law_most"] := ⟨PySem.W.mg_of X G a__law_asks, k__law_asks, b__law_asks⟩
  have F__law_served := fun_mk (st := s_l_served) l__law_served c__law_served k__law_served
  have b__law_served := F__law_served.binds (ps := ["_law_disk_here", "_law_now", "_law_here", "_law_ask"]) fun _ _ _ _ _ _ us hl => match us, hl with | [_, _, _, _], _ => rfl
  have C__law_served : Cal K mg "_law_served" f__law_served _ ["_law_disk_here", "_law_now", "_law_here", "_law_ask"] := ⟨PySem.W.mg_of X G a__law_served, k__law_served, b__law_served⟩
  have F__law_ordered := fun_mk (st := s_l_ordered) l__law_ordered c__law_ordered k__law_ordered
  have b__law_ordered := F__law_ordered.binds (ps := ["_law_disk_here", "_law_asks_here", "_law_order"]) fun _ _ _ _ _ _ us hl => match us, hl with | [_, _, _], _ => rfl
  have C__law_ordered : Cal K mg "_law_ordered" f__law_ordered _ ["_law_disk_here", "_law_asks_here", "_law_order"] := ⟨PySem.W.mg_of X G a__law_ordered, k__law_ordered, b__law_ordered⟩
  have F_law := fun_mk (st := s_law) l_law c_law k_law
  refine ⟨PySem.W.fnOf "law" "law" (defArgs s_law) (defBody s_law) (defScope s_law) .none kV_law dc_law pm_law an_law cd_law ct_law, fun s v => .of_eq rfl, fun base _ _ => ?_⟩
  have G_need_disk := ok_need_disk (P := l.prog) (w := w) (base := base) F_need_disk c_MOST_TRACKS c_MOST_SECTORS c_MOST_PACE
  have G_need_asks := ok_need_asks (P := l.prog) (w := w) (base := base) F_need_asks z_range z_len c_MOST_ASKS c_MOST_COME
  have G_served := ok_served (P := l.prog) (w := w) (base := base) F_served z_max z_abs
  have G_served_in := ok_served_in (P := l.prog) (w := w) (base := base) F_served_in G_served C_served.m C_served.k C_served.b
  have G_costs_of := ok_costs_of (P := l.prog) (w := w) (base := base) F_costs_of z_abs z_max z_sum
  have G_need_order := ok_need_order (P := l.prog) (w := w) (base := base) F_need_order z_sorted z_list z_range z_len
  have G_by_order := ok_by_order (P := l.prog) (w := w) (base := base) F_by_order G_need_disk C_need_disk.m C_need_disk.k C_need_disk.b G_need_asks C_need_asks.m C_need_asks.k C_need_asks.b G_need_order C_need_order.m C_need_order.k C_need_order.b G_served_in C_served_in.m C_served_in.k C_served_in.b G_costs_of C_costs_of.m C_costs_of.k C_costs_of.b
  have G__law_taken := ok_l_taken (P := l.prog) (w := w) (base := base) F__law_taken z_len
  have G__law_alike := ok_l_alike (P := l.prog) (w := w) (base := base) F__law_alike C__law_alike.b C__law_alike.m z_isinstance z_tuple z_list z_bool z_str z_int z_len z_range 4
  have G__law_disk := ok_l_disk (P := l.prog) (w := w) (base := base) F__law_disk G__law_taken C__law_taken.m C__law_taken.k C__law_taken.b
  have G__law_asks := ok_l_asks (P := l.prog) (w := w) (base := base) F__law_asks G__law_taken C__law_taken.m C__law_taken.k C__law_taken.b z_min z_range
  have G__law_served := ok_l_served (P := l.prog) (w := w) (base := base) F__law_served z_max z_int
  have G__law_ordered := ok_l_ordered (P := l.prog) (w := w) (base := base) F__law_ordered G__law_served C__law_served.m C__law_served.k C__law_served.b z_max z_sum
  exact ok_law F_law G__law_taken C__law_taken G__law_disk C__law_disk G__law_asks C__law_asks G_by_order C_by_order G__law_ordered C__law_ordered G__law_alike C__law_alike z_range z_list z_len
end Ag

open PySem PySem.W PyProof.Rows in
set_option maxRecDepth 100000 in
set_option maxHeartbeats 0 in
theorem PySem.Challenge.cw_armorder_k02_whole_told_orders_holds : PySem.Challenge.rw_armorder_k02_whole_told_orders.Holds := by
  w_on; o_law; k_head; (case hw => w_witness2)
  k_fill
  refine L2.walk_of (l := PySem.Challenge.rw_armorder_k02_whole_told_orders) (n := 63) (k := 6) (x := "_law_script") (CX := fun _ => L2.CX0) (sp := fun w => Ag.sp_law _) rfl (by decide) rfl ⟨rfl, by decide, by decide⟩ (fun w h Y => PySem.W.kIn_of Y) ?F (fun _ _ a ns hl hO hS => ⟨a, ns, rfl, Ag.scr_of hO hS, fun _ => rfl⟩) (fun _ _ _ _ _ z => z)
  case F =>
    intro w mg fa h KX G hmg
    refine' Ag.all_mk KX G hmg ?a_need_disk ?l_need_disk ?c_need_disk ?k_need_disk ?a_need_asks ?l_need_asks ?c_need_asks ?k_need_asks ?a_served ?l_served ?c_served ?k_served ?a_served_in ?l_served_in ?c_served_in ?k_served_in ?a_costs_of ?l_costs_of ?c_costs_of ?k_costs_of ?a_need_order ?l_need_order ?c_need_order ?k_need_order ?a_by_order ?l_by_order ?c_by_order ?k_by_order ?a__law_taken ?l__law_taken ?c__law_taken ?k__law_taken ?a__law_alike ?l__law_alike ?c__law_alike ?k__law_alike ?a__law_disk ?l__law_disk ?c__law_disk ?k__law_disk ?a__law_asks ?l__law_asks ?c__law_asks ?k__law_asks ?a__law_served ?l__law_served ?c__law_served ?k__law_served ?a__law_ordered ?l__law_ordered ?c__law_ordered ?k__law_ordered ?a_law ?l_law ?c_law ?k_law ?y_abs ?y_bool ?y_int ?y_isinstance ?y_len ?y_list ?y_max ?y_min ?y_range ?y_sorted ?y_str ?y_sum ?y_tuple ?y_MOST_ASKS ?y_MOST_COME ?y_MOST_PACE ?y_MOST_SECTORS ?y_MOST_TRACKS
    (case a_need_disk => k_is)
    (case l_need_disk => k_is)
    (case c_need_disk => k_is)
    (case k_need_disk => k_is)
    (case a_need_asks => k_is)
    (case l_need_asks => k_is)
    (case c_need_asks => k_is)
    (case k_need_asks => k_is)
    (case a_served => k_is)
    (case l_served => k_is)
    (case c_served => k_is)
    (case k_served => k_is)
    (case a_served_in => k_is)
    (case l_served_in => k_is)
    (case c_served_in => k_is)
    (case k_served_in => k_is)
    (case a_costs_of => k_is)
    (case l_costs_of => k_is)
    (case c_costs_of => k_is)
    (case k_costs_of => k_is)
    (case a_need_order => k_is)
    (case l_need_order => k_is)
    (case c_need_order => k_is)
    (case k_need_order => k_is)
    (case a_by_order => k_is)
    (case l_by_order => k_is)
    (case c_by_order => k_is)
    (case k_by_order => k_is)
    (case a__law_taken => k_is)
    (case l__law_taken => k_is)
    (case c__law_taken => k_is)
    (case k__law_taken => k_is)
    (case a__law_alike => k_is)
    (case l__law_alike => k_is)
    (case c__law_alike => k_is)
    (case k__law_alike => k_is)
    (case a__law_disk => k_is)
    (case l__law_disk => k_is)
    (case c__law_disk => k_is)
    (case k__law_disk => k_is)
    (case a__law_asks => k_is)
    (case l__law_asks => k_is)
    (case c__law_asks => k_is)
    (case k__law_asks => k_is)
    (case a__law_served => k_is)
    (case l__law_served => k_is)
    (case c__law_served => k_is)
    (case k__law_served => k_is)
    (case a__law_ordered => k_is)
    (case l__law_ordered => k_is)
    (case c__law_ordered => k_is)
    (case k__law_ordered => k_is)
    (case a_law => k_is)
    (case l_law => k_is)
    (case c_law => k_is)
    (case k_law => k_is)
    (case y_abs => k_is)
    (case y_bool => k_is)
    (case y_int => k_is)
    (case y_isinstance => k_is)
    (case y_len => k_is)
    (case y_list => k_is)
    (case y_max => k_is)
    (case y_min => k_is)
    (case y_range => k_is)
    (case y_sorted => k_is)
    (case y_str => k_is)
    (case y_sum => k_is)
    (case y_tuple => k_is)
    (case y_MOST_ASKS => k_is)
    (case y_MOST_COME => k_is)
    (case y_MOST_PACE => k_is)
    (case y_MOST_SECTORS => k_is)
    (case y_MOST_TRACKS => k_is)

