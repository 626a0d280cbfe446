import PyProof.Rows.All
import Wide.All
import OpenK.AllK
import Wide.FinOn
import HandS.ForMost
import HandS.SortKw
import HandS.SortInts
import HandS.Conv
import HandS.IsInst
import KE.DataMinMax
import KE.SortData
import PySem.Challenge.RW_armorder_k09_written_and_read
set_option Elab.async false
set_option linter.all false
set_option maxRecDepth 100000
set_option maxHeartbeats 4000000

namespace Ag
open PySem PySem.Spec PyProof.Rows L2

/-! ### heaps: what stands, a new thing, a changed thing -/
theorem same_new {H : Hp} {p : Addr} {o : HO} (h : H p = none) : Same H (upd H p o) := fun b x e => by
  rw [upd_ne (ne_of_none e h)]
  exact e
theorem same_upd {G H : Hp} {p : Addr} {o : HO} (s : Same G H) (h : G p = none) : Same G (upd H p o) := fun b x e => by
  rw [upd_ne (ne_of_none e h)]
  exact s b x e
theorem same_sqt {K : PySem.W.Frag} {H H' : Hp} {a : Addr} {xs : List V} (e : Same H H') (h : SqT K H a xs) : SqT K H' a xs := by
  rcases h with (h | ⟨o, h⟩) | h
  · exact .inl (.inl (e _ _ h))
  · exact .inl (.inr ⟨o, e _ _ h⟩)
  · exact .inr h
mutual
theorem dp_same {K : PySem.W.Frag} {H H' : Hp} (e : Same H H') : ∀ {d : PyData} {v : V}, Dp K H v d → Dp K H' v d
  | .none, _, h => by cases h; exact .non
  | .bool _, _, h => by cases h; exact .bl _
  | .int _, _, h => by cases h; exact .int _
  | .str _, _, h => by cases h; exact .str _
  | .list _, _, h => by
    cases h with
    | lst hs ha => exact .lst (e.seq hs) (dpa_same e ha)
  | .tuple _, _, h => by
    cases h with
    | tup hs ha => exact .tup (same_sqt e hs) (dpa_same e ha)
  | .dict _, _, h => by cases h
theorem dpa_same {K : PySem.W.Frag} {H H' : Hp} (e : Same H H') : ∀ {ds : List PyData} {vs : List V}, DpAll K H vs ds → DpAll K H' vs ds
  | [], _, h => by cases h; exact .nil
  | _ :: _, _, h => by
    cases h with
    | cons h1 h2 => exact .cons (dp_same e h1) (dpa_same e h2)
end
/-- the heap less what stands at r -/
def wo (H : Hp) (r : Addr) : Hp := fun b => if b = r then none else H b
theorem wo_at {H : Hp} {r : Addr} : wo H r r = none := by unfold wo; rw [if_pos rfl]
theorem wo_ne {H : Hp} {r b : Addr} (h : b ≠ r) : wo H r b = H b := by unfold wo; rw [if_neg h]
theorem wo_sub {H : Hp} {r : Addr} : Same (wo H r) H := fun b o e => by
  by_cases h : b = r
  · rw [h, wo_at] at e
    cases e
  · rw [wo_ne h] at e
    exact e
theorem wo_mono {H H' : Hp} {r : Addr} (s : Same H H') : Same (wo H r) (wo H' r) := fun b o e => by
  by_cases h : b = r
  · rw [h, wo_at] at e
    cases e
  · rw [wo_ne h] at e
    rw [wo_ne h]
    exact s _ _ e
theorem into_wo {G H : Hp} {r : Addr} (s : Same G H) (h : G r = none) : Same G (wo H r) := fun b o e => by
  rw [wo_ne (ne_of_none e h)]
  exact s _ _ e
/-- what is new in H' -/
def nw (H H' : Hp) : Hp := fun b => match H b with
  | none => H' b
  | some _ => none
theorem nw_none {H H' : Hp} {b : Addr} (h : H b = none) : nw H H' b = H' b := by unfold nw; rw [h]
theorem nw_some {H H' : Hp} {b : Addr} {o : HO} (h : H b = some o) : nw H H' b = none := by unfold nw; rw [h]
theorem nw_of {H H' : Hp} {b : Addr} {o : HO} (h : nw H H' b = some o) : H b = none ∧ H' b = some o := by
  cases e : H b with
  | none => rw [nw_none e] at h; exact ⟨rfl, h⟩
  | some x => rw [nw_some e] at h; cases h
theorem nw_sub {H H' : Hp} : Same (nw H H') H' := fun b o e => (nw_of e).2
theorem nw_wo {H H' : Hp} {r : Addr} {o : HO} (h : H r = some o) : Same (nw H H') (wo H' r) := into_wo nw_sub (nw_some h)
theorem nw_into {G H H' : Hp} {r : Addr} (hr : ∃ o, H r = some o) : Same (nw H H') (wo H' r) := let ⟨_, h⟩ := hr; nw_wo h
/-- a later heap, the same beginning -/
theorem nw_later {H H1 H2 : Hp} (s : Same H1 H2) : Same (nw H H1) (nw H H2) := fun b o e => by
  obtain ⟨h1, h2⟩ := nw_of e
  rw [nw_none h1]
  exact s _ _ h2
/-- an earlier beginning -/
theorem nw_earlier {H H1 H2 : Hp} (s : Same H H1) : Same (nw H1 H2) (nw H H2) := fun b o e => by
  obtain ⟨h1, h2⟩ := nw_of e
  rw [nw_none (s.free h1)]
  exact h2
theorem nw_new {H H' : Hp} {p : Addr} {o : HO} (s : Same H H') (h : H' p = none) : nw H (upd H' p o) p = some o := by
  rw [nw_none (s.free h), upd_same]
theorem sqt_dp {K : PySem.W.Frag} {H : Hp} {a : Addr} {xs : List V} {ds : List PyData} (h : SqT K H a xs) (d : DpAll K H xs ds) : Dp K H (.ref a) (.tuple ds) := .tup h d

/-! ### ints, pairs, lists of them as data -/
theorem dpa_ints {K : PySem.W.Frag} {H : Hp} : ∀ ns : List Int, DpAll K H (ns.map V.int) (ns.map PyData.int)
  | [] => .nil
  | n :: r => .cons (.int n) (dpa_ints r)
theorem dpa_ints_inv {K : PySem.W.Frag} {H : Hp} : ∀ {ns : List Int} {vs : List V}, DpAll K H vs (ns.map PyData.int) → vs = ns.map V.int
  | [], _, h => by cases h; rfl
  | n :: r, _, h => by
    cases h with
    | cons h1 h2 =>
      cases h1
      rw [dpa_ints_inv h2]
      rfl
theorem dpa_len {K : PySem.W.Frag} {H : Hp} : ∀ {ds : List PyData} {vs : List V}, DpAll K H vs ds → vs.length = ds.length
  | [], _, h => by cases h; rfl
  | _ :: _, _, h => by
    cases h with
    | cons h1 h2 => simp only [List.length_cons, dpa_len h2]
theorem dpa_get {K : PySem.W.Frag} {H : Hp} : ∀ {ds : List PyData} {vs : List V} {i : Nat} {d : PyData}, DpAll K H vs ds → ds[i]? = some d → ∃ v, vs[i]? = some v ∧ Dp K H v d
  | [], _, _, _, _, e => by simp at e
  | _ :: _, _, 0, _, h, e => by
    cases h with
    | cons h1 h2 => simp at e; subst e; exact ⟨_, rfl, h1⟩
  | _ :: _, _, i + 1, _, h, e => by
    cases h with
    | cons h1 h2 =>
      obtain ⟨v, a, b⟩ := dpa_get (i := i) h2 (by simpa using e)
      exact ⟨v, by simpa using a, b⟩
theorem dpa_get' {K : PySem.W.Frag} {H : Hp} : ∀ {ds : List PyData} {vs : List V} {i : Nat} {v : V}, DpAll K H vs ds → vs[i]? = some v → ∃ d, ds[i]? = some d ∧ Dp K H v d
  | [], _, _, _, h, e => by cases h; simp at e
  | _ :: _, _, 0, _, h, e => by
    cases h with
    | cons h1 h2 => simp at e; subst e; exact ⟨_, rfl, h1⟩
  | _ :: _, _, i + 1, _, h, e => by
    cases h with
    | cons h1 h2 =>
      obtain ⟨v, a, b⟩ := dpa_get' (i := i) h2 (by simpa using e)
      exact ⟨v, by simpa using a, b⟩
theorem dpa_snoc {K : PySem.W.Frag} {H : Hp} : ∀ {ds : List PyData} {vs : List V} {d : PyData} {v : V}, DpAll K H vs ds → Dp K H v d → DpAll K H (vs ++ [v]) (ds ++ [d])
  | [], _, _, _, h, e => by cases h; exact .cons e .nil
  | _ :: _, _, _, _, h, e => by
    cases h with
    | cons h1 h2 => exact .cons h1 (dpa_snoc h2 e)
theorem dp_list {K : PySem.W.Frag} {H : Hp} {v : V} {ds : List PyData} (h : Dp K H v (.list ds)) : ∃ a xs, v = .ref a ∧ SqL K H a xs ∧ DpAll K H xs ds := by
  cases h with
  | lst hs ha => exact ⟨_, _, rfl, hs, ha⟩
theorem dp_tuple {K : PySem.W.Frag} {H : Hp} {v : V} {ds : List PyData} (h : Dp K H v (.tuple ds)) : ∃ a xs, v = .ref a ∧ SqT K H a xs ∧ DpAll K H xs ds := by
  cases h with
  | tup hs ha => exact ⟨_, _, rfl, hs, ha⟩
theorem dp_ints {K : PySem.W.Frag} {H : Hp} {v : V} {ns : List Int} (h : Dp K H v (.list (ns.map PyData.int))) : ∃ a, v = .ref a ∧ SqL K H a (ns.map V.int) := by
  obtain ⟨a, xs, e, hs, ha⟩ := dp_list h
  rw [dpa_ints_inv ha] at hs
  exact ⟨a, e, hs⟩
theorem dp_tints {K : PySem.W.Frag} {H : Hp} {v : V} {ns : List Int} (h : Dp K H v (.tuple (ns.map PyData.int))) : ∃ a, v = .ref a ∧ SqT K H a (ns.map V.int) := by
  obtain ⟨a, xs, e, hs, ha⟩ := dp_tuple h
  rw [dpa_ints_inv ha] at hs
  exact ⟨a, e, hs⟩
theorem dp_ints_of {K : PySem.W.Frag} {H : Hp} {a : Addr} {ns : List Int} (h : SqL K H a (ns.map V.int)) : Dp K H (.ref a) (.list (ns.map PyData.int)) := .lst h (dpa_ints ns)
theorem dp_tints_of {K : PySem.W.Frag} {H : Hp} {a : Addr} {ns : List Int} (h : SqT K H a (ns.map V.int)) : Dp K H (.ref a) (.tuple (ns.map PyData.int)) := .tup h (dpa_ints ns)

theorem eqv_nil (ns : List Int) : PyData.eqv (.list (ns.map PyData.int)) (.list []) = decide (ns = []) := by
  cases ns with
  | nil => simp [PyData.eqv, PyData.eqvAll]
  | cons n r => simp [PyData.eqv, PyData.eqvAll]

/-! ### disks and asks -/
/-- (come, track, sector) -/
abbrev Ask := Int × Int × Int
def dAsk (a : Ask) : PyData := .tuple ([a.1, a.2.1, a.2.2].map PyData.int)
def dAsks (l : List Ask) : PyData := .list (l.map dAsk)
structure Disk where
  tr : Int
  sc : Int
  pa : Int
  he : Int
def dDisk (d : Disk) : PyData := .tuple ([d.tr, d.sc, d.pa, d.he].map PyData.int)
structure GoodDisk (d : Disk) : Prop where
  t1 : 1 ≤ d.tr
  t2 : d.tr ≤ 64
  s1 : 1 ≤ d.sc
  s2 : d.sc ≤ 16
  p1 : 1 ≤ d.pa
  p2 : d.pa ≤ 4
  h1 : 0 ≤ d.he
  h2 : d.he < d.tr
structure GoodAsk (d : Disk) (a : Ask) : Prop where
  c1 : 0 ≤ a.1
  c2 : a.1 ≤ 999
  t1 : 0 ≤ a.2.1
  t2 : a.2.1 < d.tr
  s1 : 0 ≤ a.2.2
  s2 : a.2.2 < d.sc
structure GoodAsks (d : Disk) (l : List Ask) : Prop where
  len : l.length ≤ 40
  all : ∀ a ∈ l, GoodAsk d a
theorem GoodAsks.at {d : Disk} {l : List Ask} (g : GoodAsks d l) {i : Nat} {a : Ask} (h : l[i]? = some a) : GoodAsk d a := g.all a (List.mem_of_getElem? h)
theorem dp_asks {K : PySem.W.Frag} {H : Hp} {v : V} {l : List Ask} (h : Dp K H v (dAsks l)) : ∃ a xs, v = .ref a ∧ SqL K H a xs ∧ xs.length = l.length ∧
    ∀ (i : Nat) (k : Ask), l[i]? = some k → ∃ p, xs[i]? = some (.ref p) ∧ SqT K H p [.int k.1, .int k.2.1, .int k.2.2] ∧ Dp K H (.ref p) (dAsk k) := by
  obtain ⟨a, xs, e, hs, ha⟩ := dp_list h
  refine ⟨a, xs, e, hs, by rw [dpa_len ha, List.length_map], fun i k hk => ?_⟩
  obtain ⟨v, hv, hd⟩ := dpa_get (i := i) (d := dAsk k) ha (by rw [List.getElem?_map, hk]; rfl)
  obtain ⟨p, rfl, ht⟩ := dp_tints hd
  exact ⟨p, hv, ht, hd⟩
theorem dp_disk {K : PySem.W.Frag} {H : Hp} {v : V} {d : Disk} (h : Dp K H v (dDisk d)) : ∃ a, v = .ref a ∧ SqT K H a [.int d.tr, .int d.sc, .int d.pa, .int d.he] := dp_tints h

/-! ### all but what stands at r stays -/
def SameBut (r : Addr) (H H' : Hp) : Prop := ∀ b o, b ≠ r → H b = some o → H' b = some o
theorem sb_refl {r : Addr} {H : Hp} : SameBut r H H := fun _ _ _ e => e
theorem sb_of {r : Addr} {H H' : Hp} (s : Same H H') : SameBut r H H' := fun b o _ e => s b o e
theorem sb_trans {r : Addr} {H H1 H2 : Hp} (a : SameBut r H H1) (b : SameBut r H1 H2) : SameBut r H H2 := fun c o n e => b c o n (a c o n e)
theorem sb_upd {r : Addr} {H H' : Hp} {o : HO} (s : SameBut r H H') : SameBut r H (upd H' r o) := fun b x n e => by
  rw [upd_ne n]
  exact s b x n e
theorem sb_new {r p : Addr} {H H' : Hp} {o : HO} (s : SameBut r H H') (h : H' p = none) : SameBut r H (upd H' p o) := fun b x n e => by
  rw [upd_ne (ne_of_none (s b x n e) h)]
  exact s b x n e
theorem sb_old {r p : Addr} {H H' : Hp} {o : HO} (s : SameBut r H H') (h : H p = none) : SameBut r H (upd H' p o) := fun b x n e => by
  rw [upd_ne (ne_of_none e h)]
  exact s b x n e
theorem sb_wo {r : Addr} {H H' : Hp} (s : SameBut r H H') : Same (wo H r) (wo H' r) := fun b o e => by
  by_cases h : b = r
  · rw [h, wo_at] at e
    cases e
  · rw [wo_ne h] at e
    rw [wo_ne h]
    exact s _ _ h e
theorem sb_free {r p : Addr} {H H' : Hp} (s : SameBut r H H') (n : p ≠ r) (h : H' p = none) : H p = none := by
  cases e : H p with
  | none => rfl
  | some o =>
    rw [s p o n e] at h
    cases h
theorem wo2_step {r F : Addr} {H H' : Hp} (s : ∀ b o, b ≠ r → b ≠ F → H b = some o → H' b = some o) : Same (wo (wo H r) F) (wo (wo H' r) F) := fun b o e => by
  have n1 : b ≠ F := fun z => by
    rw [z, wo_at] at e
    cases e
  rw [wo_ne n1] at e
  have n2 : b ≠ r := fun z => by
    rw [z, wo_at] at e
    cases e
  rw [wo_ne n2] at e
  rw [wo_ne n1, wo_ne n2]
  exact s b o n2 n1 e
/-- what is new in H', besides F -/
def fr (H H' : Hp) (F : Addr) : Hp := wo (nw H H') F
theorem fr_step {H H1 H2 : Hp} {F : Addr} (s : SameBut F H1 H2) : Same (fr H H1 F) (fr H H2 F) := fun b o e => by
  have n : b ≠ F := fun z => by
    unfold fr at e
    rw [z, wo_at] at e
    cases e
  unfold fr at e ⊢
  rw [wo_ne n] at e
  rw [wo_ne n]
  obtain ⟨h1, h2⟩ := nw_of e
  rw [nw_none h1]
  exact s _ _ n h2
theorem fr_at {H H' : Hp} {F p : Addr} {o : HO} (n : p ≠ F) (h : H p = none) (e : H' p = some o) : fr H H' F p = some o := by
  unfold fr
  rw [wo_ne n, nw_none h]
  exact e
theorem fr_nw {H H' : Hp} {F : Addr} : Same (fr H H' F) (nw H H') := wo_sub
theorem fr_sub {H H' : Hp} {F : Addr} : Same (fr H H' F) H' := wo_sub.trans nw_sub

/-- what is new in H', besides F and W -/
def fr2 (H H' : Hp) (F W : Addr) : Hp := wo (fr H H' F) W
theorem fr2_step {H H1 H2 : Hp} {F W : Addr} (s : ∀ b o, b ≠ F → b ≠ W → H1 b = some o → H2 b = some o) : Same (fr2 H H1 F W) (fr2 H H2 F W) := fun b o e => by
  have n1 : b ≠ W := fun z => by
    unfold fr2 at e
    rw [z, wo_at] at e
    cases e
  unfold fr2 at e ⊢
  rw [wo_ne n1] at e
  rw [wo_ne n1]
  have n2 : b ≠ F := fun z => by
    unfold fr at e
    rw [z, wo_at] at e
    cases e
  unfold fr at e ⊢
  rw [wo_ne n2] at e
  rw [wo_ne n2]
  obtain ⟨h1, h2⟩ := nw_of e
  rw [nw_none h1]
  exact s _ _ n2 n1 h2
theorem fr2_at {H H' : Hp} {F W p : Addr} {o : HO} (n : p ≠ F) (n2 : p ≠ W) (h : H p = none) (e : H' p = some o) : fr2 H H' F W p = some o := by
  unfold fr2
  rw [wo_ne n2]
  exact fr_at n h e

/-! ### orders: numbers -/
def nints (os : List Nat) : List Int := os.map fun (i : Nat) => (i : Int)
theorem nints_len (os : List Nat) : (nints os).length = os.length := List.length_map ..
theorem nints_at {os : List Nat} {i : Nat} {x : V} (h : ((nints os).map V.int)[i]? = some x) : ∃ n, os[i]? = some n ∧ x = V.int (n : Int) := by
  unfold nints at h
  rw [List.map_map, List.getElem?_map] at h
  cases e : os[i]? with
  | none =>
    rw [e] at h
    cases h
  | some n =>
    rw [e] at h
    exact ⟨n, rfl, (Option.some.inj h).symm⟩
theorem nints_get {os : List Nat} {i n : Nat} (h : os[i]? = some n) : ((nints os).map V.int)[i]? = some (V.int (n : Int)) := by
  unfold nints
  rw [List.map_map, List.getElem?_map, h]
  rfl
theorem take_more {α : Type} : ∀ {l : List α} {i : Nat} {x : α}, l[i]? = some x → l.take (i + 1) = l.take i ++ [x]
  | [], i, x, h => by simp at h
  | a :: l, 0, x, h => by
    have e : a = x := Option.some.inj h
    subst e
    rfl
  | a :: l, i + 1, x, h => by
    have ih := take_more (l := l) (i := i) (x := x) h
    show a :: l.take (i + 1) = a :: l.take i ++ [x]
    rw [ih]
    rfl
theorem getD_of {α : Type} {l : List α} {i : Nat} {x d : α} (h : l[i]? = some x) : l.getD i d = x := by
  rw [List.getD_eq_getElem?_getD, h]
  rfl
/-- a rising list of the numbers below n, in any order, is 0, 1, .. -/
theorem rising_range {n : Nat} {ns : List Int} {os : List Nat} (p : ns.Perm (nints os)) (q : os.Perm (List.range n)) (r : ns.Pairwise (· ≤ ·)) : ns = nints (List.range n) := by
  have p2 : ns.Perm (nints (List.range n)) := p.trans (q.map _)
  refine List.Perm.eq_of_pairwise (le := fun a b : Int => a ≤ b) (fun a b _ _ h1 h2 => Int.le_antisymm h1 h2) r ?_ p2
  unfold nints
  rw [List.pairwise_map]
  exact List.pairwise_le_range.imp fun h => by exact_mod_cast h
theorem rg_nints (n : Nat) : rgV 0 (n : Int) = (nints (List.range n)).map V.int := by
  unfold rgV nints
  rw [List.map_map]
  have e : ((n : Int) - 0).toNat = n := by omega
  rw [e]
  refine List.map_congr_left fun i _ => ?_
  show V.int (0 + (i : Int)) = V.int (i : Int)
  rw [Int.zero_add]
theorem canLay_ints : ∀ ns : List Int, PyData.canLayAll0 (ns.map PyData.int) = true
  | [] => by simp [PyData.canLayAll0]
  | n :: r => by simp [PyData.canLayAll0, PyData.canLay0, canLay_ints r]
theorem shaped_ints (ns : List Int) : SeqAt.shaped (.list (ns.map PyData.int)) = true := by
  unfold SeqAt.shaped
  simp [PyData.canLay0, canLay_ints, PyData.depth, PySem.W.depth_ints]
theorem shaped_tints (ns : List Int) : SeqAt.shaped (.tuple (ns.map PyData.int)) = true := by
  unfold SeqAt.shaped
  simp [PyData.canLay0, canLay_ints, PyData.depth, PySem.W.depth_ints]

theorem canLay_asks : ∀ l : List Ask, PyData.canLayAll0 (l.map dAsk) = true
  | [] => by simp [PyData.canLayAll0]
  | n :: r => by simp [PyData.canLayAll0, PyData.canLay0, dAsk, canLay_asks r]
theorem depth_asks : ∀ l : List Ask, PyData.depthAll (l.map dAsk) ≤ 1
  | [] => by simp [PyData.depthAll]
  | n :: r => by
    have h := depth_asks r
    have e : PyData.depth (dAsk n) = 1 := by
      unfold dAsk
      rw [PyData.depth, PySem.W.depth_ints]
    rw [List.map_cons, PyData.depthAll, e]
    omega
theorem shaped_asks (l : List Ask) : SeqAt.shaped (dAsks l) = true := by
  have := depth_asks l
  unfold SeqAt.shaped
  simp [PyData.canLay0, canLay_asks, PyData.depth, dAsks]
  omega

/-! ### the row of the script: (script, place, mixed) -/
/-- the script: read, never written -/
def ScrAt (K : PySem.W.Frag) (H : Hp) (a : Addr) (ns : List Int) : Prop :=
  (∃ o, H a = some (.frz o (.lst (ns.map V.int)))) ∨
    ∃ (o : Obj) (its : Array Value) (n : Nat), K.lookup a = some o ∧ o.cls = .type "list" ∧ o.dict = none ∧ o.data = .seq its n ∧ its.size ≤ sizeLine ∧ Vals (ns.map V.int) its.toList
theorem ScrAt.sql {K : PySem.W.Frag} {H : Hp} {a : Addr} {ns : List Int} (h : ScrAt K H a ns) : SqL K H a (ns.map V.int) := by
  rcases h with ⟨o, h⟩ | h
  · exact .inl (.inr ⟨o, h⟩)
  · exact .inr h
theorem scr_of {K : PySem.W.Frag} {H : Hp} {a : Addr} {ns : List Int} (hO : Only H) (h : SqL K H a (ns.map V.int)) : ScrAt K H a ns := by
  rcases h with (h | ⟨o, h⟩) | h
  · rcases hO a with e | ⟨o, xs, e⟩
    · rw [e] at h
      cases h
    · rw [e] at h
      cases h
  · exact .inl ⟨o, h⟩
  · exact .inr h
theorem ScrAt.but {K : PySem.W.Frag} {H H' : Hp} {a : Addr} {ns : List Int} (h : ScrAt K H a ns) (s : Same H H') : ScrAt K H' a ns := by
  rcases h with ⟨o, h⟩ | h
  · exact .inl ⟨o, s _ _ h⟩
  · exact .inr h
theorem ScrAt.put {K : PySem.W.Frag} {H : Hp} {a b : Addr} {ns : List Int} {xs : List V} {o : HO} (h : ScrAt K H a ns) (e : H b = some (.lst xs)) : ScrAt K (upd H b o) a ns := by
  rcases h with ⟨x, h⟩ | h
  · have n : a ≠ b := ne_of h e (by intro z; cases z)
    exact .inl ⟨x, by rw [upd_ne n]; exact h⟩
  · exact .inr h
theorem ScrAt.of {K : PySem.W.Frag} {H H' : Hp} {a : Addr} {ns : List Int} (h : ScrAt K H a ns) (s : ∀ b o u, H b = some (.frz o u) → H' b = some (.frz o u)) : ScrAt K H' a ns := by
  rcases h with ⟨x, h⟩ | h
  · exact .inl ⟨x, s _ _ _ h⟩
  · exact .inr h
def RowAt (K : PySem.W.Frag) (H : Hp) (r : Addr) : Prop := ∃ (a : Addr) (ns : List Int) (pos mix : Int), 0 ≤ pos ∧ H r = some (.lst [.ref a, .int pos, .int mix]) ∧ ScrAt K H a ns
theorem RowAt.but {K : PySem.W.Frag} {H H' : Hp} {r : Addr} (h : RowAt K H r) (s : Same H H') : RowAt K H' r := by
  obtain ⟨a, ns, pos, mix, h1, h2, h3⟩ := h
  exact ⟨a, ns, pos, mix, h1, s _ _ h2, h3.but s⟩
theorem RowAt.put {K : PySem.W.Frag} {H : Hp} {r b : Addr} {xs : List V} {o : HO} (h : RowAt K H r) (n : b ≠ r) (e : H b = some (.lst xs)) : RowAt K (upd H b o) r := by
  obtain ⟨a, ns, pos, mix, h1, h2, h3⟩ := h
  exact ⟨a, ns, pos, mix, h1, by rw [upd_ne n.symm]; exact h2, h3.put e⟩
theorem row_start {K : PySem.W.Frag} {H : Hp} {a r : Addr} {ns : List Int} (h : ScrAt K H a ns) (e : H r = none) : RowAt K (upd H r (.lst [.ref a, .int 0, .int 0])) r := ⟨a, ns, 0, 0, Int.le_refl _, upd_same, h.but (same_new e)⟩
theorem same_sb {G H H' : Hp} {r : Addr} (s : Same G H) (e : G r = none) (b : SameBut r H H') : Same G H' := fun c o q => b c o (ne_of_none q e) (s _ _ q)
theorem RowAt.some {K : PySem.W.Frag} {H : Hp} {r : Addr} (h : RowAt K H r) : ∃ o, H r = Option.some o := by
  obtain ⟨a, ns, pos, mix, h1, h2, h3⟩ := h
  exact ⟨_, h2⟩
theorem RowAt.ne {K : PySem.W.Frag} {H : Hp} {r p : Addr} (h : RowAt K H r) (e : H p = none) : p ≠ r := fun z => by
  obtain ⟨o, h⟩ := h.some
  rw [z, h] at e
  cases e

/-! ### max(ns, default=0) -/
def maxl : List Int → Int
  | [] => 0
  | n :: r => r.foldl max n
theorem reads_int {h : Heap} {v : Value} {n : Int} {as : List Addr} (r : Reads h v (.int n) as) : ∃ t, v = .int n t := by
  cases r
  exact ⟨_, rfl⟩
theorem alike_ints_all (ns : List Int) : PySem.W.AlikeAll (ns.map PyData.int) := by
  refine ⟨fun x hx y hy => ?_, fun x hx => ?_⟩
  · obtain ⟨i, _, rfl⟩ := List.mem_map.mp hx
    obtain ⟨j, _, rfl⟩ := List.mem_map.mp hy
    simp [PySem.W.alike]
  · obtain ⟨i, _, rfl⟩ := List.mem_map.mp hx
    exact fun z => by cases z
def rMaxD0 (K : PySem.W.Frag) : List V → List V → Hp → VK → Prop := fun vs zs H Q => ∃ (a : Addr) (ns : List Int), vs = [V.ref a] ∧ zs = [.int 0] ∧ SqL K H a (ns.map V.int) ∧ Q (.int (maxl ns)) H
section
variable {X : Cx}
theorem cr_maxD0 (hc : X.calm = true) (hu : X.A.units + 1 < cLine) : CallRK X (.builtin "max") [Str.ofString "default"] (rMaxD0 X.K) := by
  intro pins s σ H xs zs us ws Q I r rz h
  obtain ⟨a, ns, rfl, rfl, hs, q⟩ := h
  obtain ⟨its, rv, hl, _⟩ := I.list hs
  rw [Vals.ref1 r]
  cases rz with
  | cons rz1 rz2 =>
    cases rz2
    obtain ⟨t, rfl⟩ := rz1
    obtain ⟨as, hr⟩ := Dp.readsAll I (ns.map PyData.int) _ its (dpa_ints ns) rv
    refine PySem.W.max_list_default (I.ok.hd hc) hl.isList (by simpa using hr) (alike_ints_all ns) (by rw [PySem.W.depth_ints]; exact hu) (fun e h' tk hk => ?_) fun y ys i v h' tk bs e hv hread hk => ?_
    · have e0 : ns = [] := by
        cases ns with
        | nil => rfl
        | cons n r => cases e
      subst e0
      exact ⟨.int 0, H, I.kept hk, ⟨_, rfl⟩, q⟩
    · obtain ⟨n, r, rfl, rfl, rfl⟩ : ∃ n r, ns = n :: r ∧ y = .int n ∧ ys = r.map PyData.int := by
        cases ns with
        | nil => cases e
        | cons n r =>
          rw [List.map_cons] at e
          injection e with e1 e2
          exact ⟨n, r, rfl, e1.symm, e2.symm⟩
      rw [PySem.W.maxD_ints] at hread
      obtain ⟨t', rfl⟩ := reads_int hread
      exact ⟨.int (maxl (n :: r)), H, I.kept hk, ⟨_, rfl⟩, q⟩
end
end Ag

namespace Ag
open PySem PySem.Spec PyProof.Rows L2 TL
/-! ### asks as a text -/
def numS (n : Int) : Str := Str.ofString (toString n)
def spS : Str := Str.ofString " "
def nlS : Str := Str.ofString "\n"
def askNs (q : Ask) : List Int := [q.1, q.2.1, q.2.2]
def rowS (q : Ask) : Str := Txt.join spS ((askNs q).map numS)
def textS (l : List Ask) : Str := Txt.join nlS (l.map rowS)
/-- a number of no more than three figures -/
structure Few (n : Int) : Prop where
  lo : 0 ≤ n
  hi : n ≤ 999
theorem figs_all : ∀ n < 1000, 1 ≤ (numL n).length ∧ (numL n).length ≤ 3 ∧ (n ≠ 0 → (numL n).head? ≠ some 48) := by decide +kernel
theorem tl_numS {n : Int} (h : Few n) : ∃ k : Nat, k < 1000 ∧ n = (k : Int) ∧ tl (numS n) = numL k := by
  have h1 := h.lo
  have h2 := h.hi
  refine ⟨n.toNat, by omega, by omega, ?_⟩
  have : n = (n.toNat : Int) := by omega
  unfold numS
  rw [this]
  exact tl_num _
theorem numS_len {n : Int} (h : Few n) : 1 ≤ (numS n).length ∧ (numS n).length ≤ 3 := by
  obtain ⟨k, hk, rfl, e⟩ := tl_numS h
  rw [len_tl, e]
  exact ⟨(figs_all k hk).1, (figs_all k hk).2.1⟩
theorem numS_int {n : Int} (h : Few n) : intText? (numS n) = some n := by
  obtain ⟨k, hk, rfl, e⟩ := tl_numS h
  exact int_num (Nat.le_trans (figs_all k hk).2.1 (by decide))
theorem numS_free {n : Int} (h : Few n) {s : Nat} (hs : s < 48 ∨ 57 < s) : s ∉ tl (numS n) := by
  obtain ⟨k, hk, rfl, e⟩ := tl_numS h
  rw [e]
  exact numL_free hs
theorem numS_sign {n : Int} (h : Few n) {c : Nat} (hc : c ∈ tl (numS n)) : 48 ≤ c ∧ c ≤ 57 := by
  refine ⟨?_, ?_⟩
  · by_cases z : 48 ≤ c
    · exact z
    · exact absurd hc (numS_free h (.inl (by omega)))
  · by_cases z : c ≤ 57
    · exact z
    · exact absurd hc (numS_free h (.inr (by omega)))
theorem figures {c : Nat} (h : 48 ≤ c ∧ c ≤ 57) : c ∈ (Str.ofString "0123456789").cps.toList := by
  have e : (Str.ofString "0123456789").cps.toList = [48, 49, 50, 51, 52, 53, 54, 55, 56, 57] := by decide +kernel
  rw [e]
  obtain ⟨h1, h2⟩ := h
  rcases (by omega : c = 48 ∨ c = 49 ∨ c = 50 ∨ c = 51 ∨ c = 52 ∨ c = 53 ∨ c = 54 ∨ c = 55 ∨ c = 56 ∨ c = 57) with rfl | rfl | rfl | rfl | rfl | rfl | rfl | rfl | rfl | rfl <;> decide
/-- the first sign, and that a nought stands alone -/
theorem numS_head {n : Int} (h : Few n) : ∃ c, atI (numS n).cps.toList 0 = some c ∧ (c = 48 → numS n = Str.ofString "0") := by
  obtain ⟨k, hk, rfl, e⟩ := tl_numS h
  have f := figs_all k hk
  have e' : (numS (k : Int)).cps.toList = numL k := e
  cases hl : numL k with
  | nil => rw [hl] at f; exact absurd f.1 (by decide)
  | cons c r =>
    refine ⟨c, by rw [e', hl]; exact atI_nat (j := 0) rfl, fun z => ?_⟩
    by_cases h0 : k = 0
    · subst h0
      rfl
    · have := f.2.2 h0
      rw [hl, z] at this
      exact absurd rfl this
theorem tl_spS : tl spS = [32] := by decide +kernel
theorem tl_nlS : tl nlS = [10] := by decide +kernel
theorem askNs_few {d : Disk} {q : Ask} (gd : GoodDisk d) (g : GoodAsk d q) : ∀ n ∈ askNs q, Few n := by
  intro n hn
  have h1 := g.c1
  have h2 := g.c2
  have h3 := g.t1
  have h4 := g.t2
  have h5 := g.s1
  have h6 := g.s2
  have h7 := gd.t2
  have h8 := gd.s2
  unfold askNs at hn
  rcases List.mem_cons.mp hn with rfl | hn
  · exact ⟨h1, h2⟩
  · rcases List.mem_cons.mp hn with rfl | hn
    · exact ⟨h3, by omega⟩
    · rcases List.mem_cons.mp hn with rfl | hn
      · exact ⟨h5, by omega⟩
      · cases hn
theorem tl_rowS (q : Ask) : tl (rowS q) = tl (numS q.1) ++ (32 :: (tl (numS q.2.1) ++ (32 :: tl (numS q.2.2)))) := by
  unfold rowS
  rw [join_eq, tl_join, tl_spS]
  rfl
theorem rowS_law (q : Ask) : numS q.1 ++ spS ++ numS q.2.1 ++ spS ++ numS q.2.2 = rowS q := by
  refine ext_tl ?_
  rw [tl_rowS, tl_append, tl_append, tl_append, tl_append, tl_spS]
  simp
theorem rowS_len {q : Ask} (h : ∀ n ∈ askNs q, Few n) : 5 ≤ (rowS q).length ∧ (rowS q).length ≤ 11 := by
  have a := numS_len (h q.1 (by simp [askNs]))
  have b := numS_len (h q.2.1 (by simp [askNs]))
  have c := numS_len (h q.2.2 (by simp [askNs]))
  rw [len_tl] at a b c
  rw [len_tl, tl_rowS]
  simp only [List.length_append, List.length_cons]
  omega
theorem rowS_split {q : Ask} (h : ∀ n ∈ askNs q, Few n) : Txt.split (rowS q) spS = (askNs q).map numS := by
  refine split_join tl_spS (by decide +kernel) (by simp [askNs]) fun p hp => ?_
  obtain ⟨n, hn, rfl⟩ := List.mem_map.mp hp
  exact numS_free (h n hn) (.inl (by decide))
theorem rowS_free {q : Ask} (h : ∀ n ∈ askNs q, Few n) : 10 ∉ tl (rowS q) := by
  have a := numS_free (h q.1 (by simp [askNs])) (s := 10) (.inl (by decide))
  have b := numS_free (h q.2.1 (by simp [askNs])) (s := 10) (.inl (by decide))
  have c := numS_free (h q.2.2 (by simp [askNs])) (s := 10) (.inl (by decide))
  rw [tl_rowS]
  simp [a, b, c]
theorem textS_split {l : List Ask} (h : ∀ q ∈ l, ∀ n ∈ askNs q, Few n) (hl : l ≠ []) : Txt.split (textS l) nlS = l.map rowS := by
  refine split_join tl_nlS (by decide +kernel) (fun e => hl (List.map_eq_nil_iff.mp e)) fun p hp => ?_
  obtain ⟨q, hq, rfl⟩ := List.mem_map.mp hp
  exact rowS_free (h q hq)
theorem textS_nil : textS [] = Str.ofString "" := by decide +kernel
theorem joinL_len (S : List Nat) (k : Nat) : ∀ ps : List (List Nat), (∀ p ∈ ps, p.length ≤ k) → (joinL S ps).length ≤ ps.length * (k + S.length)
  | [], _ => Nat.zero_le _
  | [p], h => by
    show p.length ≤ 1 * (k + S.length)
    have := h p (by simp)
    omega
  | p :: q :: r, h => by
    have ih := joinL_len S k (q :: r) fun z hz => h z (List.mem_cons_of_mem _ hz)
    have := h p (by simp)
    show (p ++ (S ++ joinL S (q :: r))).length ≤ _
    rw [List.length_append, List.length_append, List.length_cons (a := p), Nat.succ_mul]
    omega
theorem textS_len {l : List Ask} (h : ∀ q ∈ l, ∀ n ∈ askNs q, Few n) (hl : l.length ≤ 40) : (textS l).length ≤ 480 := by
  unfold textS
  rw [len_tl, join_eq, tl_join, tl_nlS]
  have := joinL_len [10] 11 ((l.map rowS).map tl) fun p hp => by
    obtain ⟨x, hx, rfl⟩ := List.mem_map.mp hp
    obtain ⟨q, hq, rfl⟩ := List.mem_map.mp hx
    rw [← len_tl]
    exact (rowS_len (h q hq)).2
  rw [List.length_map, List.length_map] at this
  have e : ([10] : List Nat).length = 1 := rfl
  rw [e] at this
  omega
theorem textS_ne {l : List Ask} (h : ∀ q ∈ l, ∀ n ∈ askNs q, Few n) (hl : l ≠ []) : textS l ≠ Str.ofString "" := by
  intro e
  have e2 := textS_split h hl
  rw [e] at e2
  have : Txt.split (Str.ofString "") nlS = [Str.ofString ""] := by decide +kernel
  rw [this] at e2
  cases l with
  | nil => exact hl rfl
  | cons q r =>
    rw [List.map_cons] at e2
    injection e2 with e3 e4
    have := (rowS_len (h q (by simp))).1
    rw [← e3] at this
    exact absurd this (by decide +kernel)
theorem sum_len {k : Nat} : ∀ {ws : List Str}, (∀ x ∈ ws, x.length ≤ k) → (ws.map (·.length)).sum ≤ ws.length * k
  | [], _ => Nat.zero_le _
  | x :: r, h => by
    have ih := sum_len (ws := r) fun z hz => h z (List.mem_cons_of_mem _ hz)
    have := h x (by simp)
    rw [List.map_cons, List.sum_cons, List.length_cons, Nat.succ_mul]
    omega
/-- a comprehension over a text's signs -/
theorem lc_signs {x : Str} {g : TG} {tt : TT} {te : TE} {vs : List Nat} {σ : L2.St} {H1 : Hp} {D : Addr} {Qd : Hp → Prop} (Pv : Nat → Hp → Prop) (h0 : Pv 0 (upd H1 D (.lst [])))
    (hs : ∀ i c H, x.cps[i]? = some c → Pv i H → g (.str ⟨#[c]⟩) (wipe σ vs) H fun σ2 H2 => wipe σ2 vs = wipe σ vs ∧ tt σ2 H2 fun b H3 =>
      if b = true then te σ2 H3 fun y H4 => ∃ acc, H4 D = some (.lst acc) ∧ acc.length < sizeLine ∧ Pv (i + 1) (upd H4 D (.lst (acc ++ [y]))) else Pv (i + 1) H3) (hd : ∀ H, Pv x.cps.size H → Qd H) :
    ∃ W : Nat → Nat → Hp → Prop, (∃ m, W 0 m (upd H1 D (.lst []))) ∧ ∀ i m H, W i m H →
      ((Its x).stop i H ∧ Qd H) ∨ ((Its x).go i H ∧ ∃ Nx : Hp → Prop, (∀ H', Nx H' → ∃ m', m' < m ∧ W (i + 1) m' H') ∧ ∀ y H', (Its x).yld i H y H' → g y (wipe σ vs) H' fun σ2 H2 => wipe σ2 vs = wipe σ vs ∧ tt σ2 H2 fun b H3 =>
        if b = true then te σ2 H3 fun y H4 => ∃ acc, H4 D = some (.lst acc) ∧ acc.length < sizeLine ∧ Nx (upd H4 D (.lst (acc ++ [y]))) else Nx H3) := by
  refine ⟨fun i m H => m = x.cps.size - i ∧ i ≤ x.cps.size ∧ Pv i H, ⟨x.cps.size, by simp, Nat.zero_le _, h0⟩, ?_⟩
  rintro i m H ⟨rfl, hi, p⟩
  by_cases hlt : i < x.cps.size
  · refine .inr ⟨hlt, Pv (i + 1), fun H' p' => ⟨x.cps.size - (i + 1), by omega, rfl, hlt, p'⟩, fun y H' hy => ?_⟩
    obtain ⟨e, c, hc, rfl⟩ := hy
    subst e
    exact hs i c _ hc p
  · have e : i = x.cps.size := by omega
    subst e
    exact .inl ⟨Nat.le_refl _, hd H p⟩
def rJoinK (K : PySem.W.Frag) : V → List V → Hp → VK → Prop := fun x xs H Q => ∃ a p, ∃ ys : List Str, x = .str a ∧ xs = [.ref p] ∧ (SqL K H p (ys.map V.str) ∨ SqT K H p (ys.map V.str)) ∧
      (ys.map (·.length)).sum + ys.length * a.length ≤ 16777216 ∧ Q (.str (Txt.join a ys)) H
/-- join within a block -/
theorem pe_joinK {X : Cx} {o e : Expr} {to te : TE} {K : PySem.W.Frag} {apos pos : Pos} (ho : PE X o to) (he : PE X e te) (hK : X.K = K := by rfl) (hs : starEach [e] X.env = [(false, eval e X.env)] := by rfl) (hbase : attributeBase o "join" X.env (eval o X.env) = eval o X.env := by rfl) (hline : (apos.endLine == pos.line) = true := by rfl) :
    PE X (.Call (.Attribute o "join" apos) [e] [] pos) (tM1 (rJoinK K) to te) := by
  subst hK
  exact pe_join ho he hs hbase hline
theorem log2_small {n : Int} (h : Few n) : n.natAbs.log2 < 1920 := by
  have h1 := h.lo
  have h2 := h.hi
  by_cases z : n.natAbs = 0
  · rw [z]; decide
  · have := (Nat.log2_lt z (k := 10)).mpr (by omega)
    omega
end Ag

namespace Ag
open PySem PySem.Spec PyProof.Rows L2
/-! ### the text -/
def top (i : Nat) : Stmt := PySem.Challenge.pw_armorder_k09_written_and_read.main.body.getD i (.Pass ⟨0, 0, 0, 0⟩)
theorem ifd_t {p : Prop} [Decidable p] {A B : Prop} (h : p) (a : A) : if decide p = true then A else B := by
  rw [decide_eq_true h]
  exact iteT a
theorem ifd_f {p : Prop} [Decidable p] {A B : Prop} (h : ¬ p) (b : B) : if decide p = true then A else B := by
  rw [decide_eq_false h]
  exact iteF b
theorem ifnd_t {p : Prop} [Decidable p] {A B : Prop} (h : p) (b : B) : if (!decide p) = true then A else B := by
  rw [decide_eq_true h]
  exact iteF b
theorem ifnd_f {p : Prop} [Decidable p] {A B : Prop} (h : ¬ p) (a : A) : if (!decide p) = true then A else B := by
  rw [decide_eq_false h]
  exact iteT a
theorem if2d {p : Prop} [Decidable p] {A B : Prop} (h1 : p → A) (h2 : ¬ p → B) : if decide p = true then A else B := by
  by_cases h : p
  · exact ifd_t h (h1 h)
  · exact ifd_f h (h2 h)
theorem rel_int {i : Int} {t : Tok} : RelV (.int i) (.int i t) := ⟨_, rfl⟩
/-- a def that is called: its name, that it stays, how its arguments bind -/
structure Cal (K : PySem.W.Frag) (mg : Str → Option Value) (x : Str) (f : Addr) (fd : FuncData) (ps : List Str) : Prop where
  m : mg x = some (.ref f)
  k : PySem.W.keepIn K (.ref f) = true
  b : Binds K fd ps []
/-! ### need_disk -/
abbrev s_need_disk : Stmt := top 11
def sp_need_disk (K : PySem.W.Frag) : Sp := fun vs H Q _ => ∃ (v : V) (d : Disk), vs = [v] ∧ Dp K H v (dDisk d) ∧ GoodDisk d ∧ Q .non H
theorem sc_need_disk : FnScope ["disk", "tracks", "sectors", "pace", "here"] ["disk"] (defScope s_need_disk) := ⟨rfl, rfl, rfl, by decide +kernel, rfl, by decide +kernel, by decide +kernel⟩
section
variable {P : Program} {w : World} {K : PySem.W.Frag} {mg : Str → Option Value} {base : Heap}
theorem ok_need_disk {f : Addr} {fd : FuncData} (F : Fun K "need_disk" "need_disk" s_need_disk f fd) {t1 t2 t3 : Tok} (m1 : mg "MOST_TRACKS" = some (.int 64 t1)) (m2 : mg "MOST_SECTORS" = some (.int 16 t2)) (m3 : mg "MOST_PACE" = some (.int 4 t3)) :
    FnOk P w K mg base CX0 1 f fd ["disk"] (sp_need_disk K) := by
  refine F.ok sc_need_disk (fun vs H Q E h => ?_) (fun cdv A outer s H vs Q E hr h => ?_)
  · obtain ⟨v, d, rfl, _⟩ := h
    rfl
  · obtain ⟨v, d, rfl, hd, g, q⟩ := h
    obtain ⟨a, rfl, hT⟩ := dp_disk hd
    have nd := sc_need_disk.nd
    refine ⟨_, pss_cons (ps_asg (pv 0) (pg_tup rfl (pgs_cons (pg_name (i := 1) nd rfl (.inl rfl)) (pgs_cons (pg_name (i := 2) nd rfl (.inl rfl)) (pgs_cons (pg_name (i := 3) nd rfl (.inl rfl)) (pgs_cons (pg_name (i := 4) nd rfl (.inl rfl)) pgs_nil))))))
      (pss_cons (ps_if (pt_not (pt_chain op_le op_le pe_int (pv 1) (pe_glob rfl m1 rel_int))) (pss_one ps_never) pss_nil)
      (pss_cons (ps_if (pt_not (pt_chain op_le op_le pe_int (pv 2) (pe_glob rfl m2 rel_int))) (pss_one ps_never) pss_nil)
      (pss_cons (ps_if (pt_not (pt_chain op_le op_le pe_int (pv 3) (pe_glob rfl m3 rel_int))) (pss_one ps_never) pss_nil)
      (pss_one (ps_if (pt_not (pt_chain op_le op_lt pe_int (pv 4) (pv 1))) (pss_one ps_never) pss_nil))))), ?_⟩
    refine ⟨_, rfl, a, _, rfl, hT, rfl, _, _, rfl, _, _, rfl, _, _, rfl, _, _, rfl, rfl, ?_⟩
    refine ⟨_, rfl, _, _, rfl, rfl, _, rfl, ifd_t g.t1 ⟨_, _, rfl, rfl, _, rfl, ifnd_t g.t2 ?_⟩⟩
    refine ⟨_, rfl, _, _, rfl, rfl, _, rfl, ifd_t g.s1 ⟨_, _, rfl, rfl, _, rfl, ifnd_t g.s2 ?_⟩⟩
    refine ⟨_, rfl, _, _, rfl, rfl, _, rfl, ifd_t g.p1 ⟨_, _, rfl, rfl, _, rfl, ifnd_t g.p2 ?_⟩⟩
    refine ⟨_, rfl, _, _, rfl, rfl, _, rfl, ifd_t g.h1 ⟨_, rfl, _, _, rfl, rfl, _, rfl, ifnd_t g.h2 ?_⟩⟩
    exact q
end
/-! ### need_asks -/
abbrev s_need_asks : Stmt := top 12
def sp_need_asks (K : PySem.W.Frag) : Sp := fun vs H Q _ => ∃ (v u : V) (d : Disk) (l : List Ask), vs = [v, u] ∧ Dp K H v (dDisk d) ∧ Dp K H u (dAsks l) ∧ GoodAsks d l ∧ Q .non H
theorem sc_need_asks : FnScope ["disk", "asks", "number", "come", "track", "sector", "good"] ["disk", "asks"] (defScope s_need_asks) := ⟨rfl, rfl, rfl, by decide +kernel, rfl, by decide +kernel, by decide +kernel⟩
section
variable {P : Program} {w : World} {K : PySem.W.Frag} {mg : Str → Option Value} {base : Heap}
theorem ok_need_asks {f : Addr} {fd : FuncData} (F : Fun K "need_asks" "need_asks" s_need_asks f fd) (mr : mg "range" = none) (ml : mg "len" = none) {t1 t2 : Tok} (m1 : mg "MOST_ASKS" = some (.int 40 t1)) (m2 : mg "MOST_COME" = some (.int 999 t2)) :
    FnOk P w K mg base CX0 1 f fd ["disk", "asks"] (sp_need_asks K) := by
  refine F.ok sc_need_asks (fun vs H Q E h => ?_) (fun cdv A outer s H vs Q E hr h => ?_)
  · obtain ⟨v, u, d, l, rfl, _⟩ := h
    rfl
  · obtain ⟨v, u, d, l, rfl, hd, ha, g, q⟩ := h
    obtain ⟨a, rfl, hT⟩ := dp_disk hd
    obtain ⟨b, xs, rfl, hL, hlen, hat⟩ := dp_asks ha
    have nd := sc_need_asks.nd
    refine ⟨_, pss_one (ps_for PassesOwn.never rfl (pi_range1 rfl mr (pa_cons (pe_callB call_len_seq (by rfl) ml PySem.boot_len (pa_cons (pv 1) pa_nil)) pa_nil)) (pg_name (i := 2) nd rfl (.inl rfl))
      (pss_cons (ps_asg (pe_ix ix_list (pv 1) (pv 2) (fun _ _ => rfl)) (pg_tup rfl (pgs_cons (pg_name (i := 3) nd rfl (.inl rfl)) (pgs_cons (pg_name (i := 4) nd rfl (.inl rfl)) (pgs_cons (pg_name (i := 5) nd rfl (.inl rfl)) pgs_nil)))))
      (pss_cons (ps_set (i := 6) nd rfl (.inl rfl) (pe_and (pe_cmpR op_lt (pv 2) (pe_glob rfl m1 rel_int) (nomark _)) (pe_one (pe_chain op_le op_le pe_int (pv 3) (pe_glob rfl m2 rel_int)))))
      (pss_one (ps_if (PW.pt (pw_or (pt_not (pt_val (pv 6))) (pw_or (pt_not (pt_chain op_le op_lt pe_int (pv 4) (pe_ix ix_tup (pv 0) pe_int (fun _ _ => rfl)))) (pw_or1 (pt_not (pt_chain op_le op_lt pe_int (pv 5) (pe_ix ix_tup (pv 0) pe_int (fun _ _ => rfl)))))))) (pss_one ps_never) pss_nil))))), ?_⟩
    have h40 := g.len
    refine ⟨_, rfl, b, xs, rfl, .inl hL, _, rfl, by rw [hlen]; omega, by rw [hlen]; omega, ?_⟩
    refine for_range (lo := 0) (n := xs.length) (fun i σ H' => H' = H ∧ ∃ v2 v3 v4 v5 v6, σ = [some (.ref a), some (.ref b), v2, v3, v4, v5, v6]) ⟨rfl, none, none, none, none, none, rfl⟩ ?_ ?_
    · rintro i σ H' hi ⟨rfl, v2, v3, v4, v5, v6, rfl⟩
      obtain ⟨k, hk⟩ : ∃ k, l[i]? = some k := ⟨_, List.getElem?_eq_getElem (by omega)⟩
      obtain ⟨p, hp, hpT, _⟩ := hat i k hk
      have ga := g.at hk
      refine ⟨_, rfl, _, rfl, b, xs, (i : Int), .ref p, rfl, by rw [Int.zero_add], hL, atI_nat hp, ?_⟩
      refine ⟨p, _, rfl, hpT, rfl, _, _, rfl, _, _, rfl, _, _, rfl, rfl, ?_⟩
      refine ⟨_, rfl, _, _, rfl, rfl, _, rfl, ifd_t (by omega) ?_⟩
      refine ⟨_, rfl, _, _, rfl, rfl, _, rfl, ifd_t ga.c1 ⟨_, _, rfl, rfl, ?_⟩⟩
      refine ⟨_, rfl, _, rfl, ifnd_t ga.c2 ?_⟩
      refine ⟨_, rfl, _, _, rfl, rfl, _, rfl, ifd_t ga.t1 ⟨_, rfl, a, _, 0, _, rfl, rfl, hT, atI_nat (j := 0) rfl, _, _, rfl, rfl, _, rfl, ifnd_t ga.t2 ?_⟩⟩
      refine ⟨_, rfl, _, _, rfl, rfl, _, rfl, ifd_t ga.s1 ⟨_, rfl, a, _, 1, _, rfl, rfl, hT, atI_nat (j := 1) rfl, _, _, rfl, rfl, _, rfl, ifnd_t ga.s2 ?_⟩⟩
      exact ⟨rfl, _, _, _, _, _, rfl⟩
    · rintro σ H' ⟨rfl, _⟩
      exact q
end
end Ag

namespace Ag
open PySem PySem.Spec PyProof.Rows L2
/-! ### written -/
abbrev s_written : Stmt := top 16
def sp_written (K : PySem.W.Frag) : Sp := fun vs H Q _ => ∃ (v u : V) (d : Disk) (l : List Ask), vs = [v, u] ∧ Dp K H v (dDisk d) ∧ Dp K H u (dAsks l) ∧ GoodDisk d ∧ GoodAsks d l ∧ ∀ H', Same H H' → Q (.str (textS l)) H'
theorem sc_written : FnScope ["disk", "asks", "ask", "number"] ["disk", "asks"] (defScope s_written) := ⟨rfl, rfl, rfl, by decide +kernel, rfl, by decide +kernel, by decide +kernel⟩
section
variable {P : Program} {w : World} {K : PySem.W.Frag} {mg : Str → Option Value} {base : Heap}
theorem ok_written {f f1 f2 : Addr} {fd fd1 fd2 : FuncData} (F : Fun K "written" "written" s_written f fd)
    (G_need_disk : FnOk P w K mg base CX0 1 f1 fd1 ["disk"] (sp_need_disk K)) (C_need_disk : Cal K mg "need_disk" f1 fd1 ["disk"])
    (G_need_asks : FnOk P w K mg base CX0 1 f2 fd2 ["disk", "asks"] (sp_need_asks K)) (C_need_asks : Cal K mg "need_asks" f2 fd2 ["disk", "asks"])
    (mb_str : mg "str" = none) : FnOk P w K mg base CX0 2 f fd ["disk", "asks"] (sp_written K) := by
  refine F.ok sc_written (fun vs H Q E h => ?_) (fun cdv A outer s H vs Q E hr h => ?_)
  · obtain ⟨v, u, d, l, rfl, _⟩ := h
    rfl
  · obtain ⟨v, u, d, l, rfl, hd, ha, gd, g, q⟩ := h
    have nd := sc_written.nd
    have hr_need_disk : Room 1 _ := hr.mono (by decide)
    have hr_need_asks : Room 1 _ := hr.mono (by decide)
    obtain ⟨b, xs, rfl, hL, hlen, hat⟩ := dp_asks ha
    have h40 := g.len
    refine ⟨_, (pss_cons (ps_expr (pe_call G_need_disk hr_need_disk rfl C_need_disk.m C_need_disk.k C_need_disk.b .nil pass0 (pa_cons (pv 0) pa_nil)))
      (pss_cons (ps_expr (pe_call G_need_asks hr_need_asks rfl C_need_asks.m C_need_asks.k C_need_asks.b .nil pass0 (pa_cons (pv 0) (pa_cons (pv 1) pa_nil))))
      (pss_one (ps_ret (pe_join pe_str (pe_lc (own := [("ask", 2)]) (g := (gName 2)) (tt := tYes) rfl nd (pi_list (pv 1)) (blkOk_by (own := [("ask", 2)]) (N := ["disk", "asks", "ask", "number"]) (sc := defScope s_written) (by decide +kernel)) (fun _ _ _ _ _ => (pg_name (i := 2) nd rfl (.inl rfl))) (fun _ _ _ _ _ => pts_nil) (fun _ _ _ _ _ => (pe_joinK (K := K) pe_str (pe_lc (wi := iTup K (tVar 2)) (own := [("number", 3)]) (g := (gName 3)) (tt := tYes) rfl nd (pi_tup (pv 2)) (blkOk_by (own := [("number", 3)]) (N := ["disk", "asks", "ask", "number"]) (by show blkC _ (Scope.mk .function [(".0", .local), ("ask", .local)] false false []) _ _ = true; decide +kernel)) (fun _ _ _ _ _ => (pg_name (i := 3) nd rfl (.inl rfl))) (fun _ _ _ _ _ => pts_nil) (fun _ _ _ _ _ => (pe_callTy call_str_int (by rfl) mb_str (by decide +kernel) (pa_cons (pv 3) pa_nil)))))))))))), ?_⟩
    refine ⟨_, rfl, v, d, rfl, hd, gd, ?_⟩
    refine ⟨_, rfl, _, rfl, _, _, d, l, rfl, hd, ha, g, ?_⟩
    refine ⟨⟨_, rfl⟩, _, rfl, b, rfl, ⟨xs, hL⟩, fun D hD => ?_⟩
    have s1 := same_new (o := .lst []) hD
    have few : ∀ q ∈ l, ∀ n ∈ askNs q, Few n := fun q hq => askNs_few gd (g.all q hq)
    refine lc_list (K := K) (a := b) (xs := xs) (fun i H' => Same H H' ∧ H' D = some (.lst (((l.take i).map rowS).map V.str))) ⟨s1, upd_same⟩ (fun i H' _ ⟨s, _⟩ => s.seq hL) ?_ ?_
    · rintro i x H' hi ⟨s2, eD⟩
      have hlt : i < xs.length := (List.getElem?_eq_some_iff.mp hi).1
      obtain ⟨k, hk⟩ : ∃ k, l[i]? = some k := ⟨_, List.getElem?_eq_getElem (by omega)⟩
      obtain ⟨p, hp, hpT, _⟩ := hat i k hk
      obtain rfl : x = .ref p := Option.some.inj (hi.symm.trans hp)
      have fk := few k (List.mem_of_getElem? hk)
      refine ⟨rfl, ⟨_, rfl⟩, _, rfl, p, rfl, ⟨_, hpT.elim (fun h => same_sqt s2 (.inl h)) fun h => same_sqt s2 (.inr h)⟩, fun D2 hD2 => ?_⟩
      have sD2 := same_new (o := .lst []) hD2
      have nDD : D ≠ D2 := ne_of_none eD hD2
      refine lc_tup (K := K) (a := p) (xs := (askNs k).map V.int) (fun j H'' => Same H' H'' ∧ H'' D2 = some (.lst ((((askNs k).take j).map numS).map V.str))) ⟨sD2, upd_same⟩ (fun j H'' _ ⟨s, _⟩ => same_sqt (s2.trans s) hpT) ?_ ?_
      · rintro j x H'' hj ⟨s3, eD2⟩
        obtain ⟨n, hn, rfl⟩ : ∃ n, (askNs k)[j]? = some n ∧ x = .int n := by
          rw [List.getElem?_map] at hj
          cases e : (askNs k)[j]? with
          | none => rw [e] at hj; cases hj
          | some n => rw [e] at hj; exact ⟨n, rfl, (Option.some.inj hj).symm⟩
        have hj3 : j < 3 := (List.getElem?_eq_some_iff.mp hn).1
        refine ⟨rfl, _, rfl, n, rfl, log2_small (fk n (List.mem_of_getElem? hn)), _, eD2, ?_, same_upd s3 hD2, ?_⟩
        · rw [List.length_map, List.length_map, List.length_take]
          exact small1000 (by omega)
        · rw [upd_same, take_more hn, List.map_append, List.map_append]
          rfl
      · rintro H'' ⟨s3, eD2⟩
        have e3 : (askNs k).take ((askNs k).map V.int).length = askNs k := rfl
        rw [e3] at eD2
        refine ⟨_, D2, (askNs k).map numS, rfl, rfl, .inl (SqL.of eD2), ?_, ?_⟩
        · have := sum_len (k := 3) (ws := (askNs k).map numS) fun z hz => by
            obtain ⟨n, hn, rfl⟩ := List.mem_map.mp hz
            exact (numS_len (fk n hn)).2
          have e1 : ((askNs k).map numS).length = 3 := rfl
          have e2 : spS.length = 1 := by decide +kernel
          rw [e1] at this ⊢
          show _ + 3 * spS.length ≤ _
          rw [e2]
          omega
        · have eD3 := s3 _ _ eD
          refine ⟨_, eD3, ?_, same_upd (s2.trans s3) hD, ?_⟩
          · rw [List.length_map, List.length_map, List.length_take]
            exact small1000 (by omega)
          · rw [upd_same, take_more hk, List.map_append, List.map_append]
            rfl
    · rintro H' ⟨s2, eD⟩
      rw [List.take_of_length_le (by omega)] at eD
      refine ⟨_, D, l.map rowS, rfl, rfl, .inl (SqL.of eD), ?_, ?_⟩
      · have := sum_len (k := 11) (ws := l.map rowS) fun z hz => by
          obtain ⟨n, hn, rfl⟩ := List.mem_map.mp hz
          exact (rowS_len (few n hn)).2
        have e2 : nlS.length = 1 := by decide +kernel
        rw [List.length_map] at this ⊢
        show _ + l.length * nlS.length ≤ _
        rw [e2]
        omega
      · exact q _ s2
end
end Ag

namespace Ag
open PySem PySem.Spec PyProof.Rows L2
/-! ### number_of -/
abbrev s_number_of : Stmt := top 17
def sp_number_of (K : PySem.W.Frag) : Sp := fun vs H Q _ => ∃ (n row : Int), vs = [.str (numS n), .int row] ∧ Few n ∧ ∀ H', Same H H' → Q (.int n) H'
theorem sc_number_of : FnScope ["word", "row", "sign"] ["word", "row"] (defScope s_number_of) := ⟨rfl, rfl, rfl, by decide +kernel, rfl, by decide +kernel, by decide +kernel⟩
theorem rel_str {x : Str} {t : Tok} : RelV (.str x) (.str x t) := ⟨_, rfl⟩
section
variable {P : Program} {w : World} {K : PySem.W.Frag} {mg : Str → Option Value} {base : Heap}
theorem ok_number_of {f : Addr} {fd : FuncData} (F : Fun K "number_of" "number_of" s_number_of f fd) (mb_len : mg "len" = none) (mb_int : mg "int" = none) {t1 t2 : Tok} (mc_MOST_FIGURES : mg "MOST_FIGURES" = some (.int 3 t1))
    (mc_FIGURES : mg "FIGURES" = some (.str "0123456789" t2)) : FnOk P w K mg base CX0 1 f fd ["word", "row"] (sp_number_of K) := by
  refine F.ok sc_number_of (fun vs H Q E h => ?_) (fun cdv A outer s H vs Q E hr h => ?_)
  · obtain ⟨n, row, rfl, _⟩ := h
    rfl
  · obtain ⟨n, row, rfl, hn, q⟩ := h
    have nd := sc_number_of.nd
    obtain ⟨n1, n3⟩ := numS_len hn
    have nline : (numS n).length ≤ sizeLine := Nat.le_of_lt (small1000 (by omega))
    refine ⟨_, (pss_cons (ps_if (PW.pt (pw_or (pt_not (pt_chain op_le op_le pe_int (pe_callB call_len (by rfl) mb_len PySem.boot_len (pa_cons (pv 0) pa_nil)) (pe_glob rfl mc_MOST_FIGURES rel_int))) (pw_or1 (pt_cmpR (op_neD hr.units) (pe_lc (own := [("sign", 2)]) (g := (gName 2)) rfl nd (pi_str (pv 0)) (blkOk_by (own := [("sign", 2)]) (N := ["word", "row", "sign"]) (sc := defScope s_number_of) (by decide +kernel)) (fun _ _ _ _ _ => (pg_name (i := 2) nd rfl (.inl rfl))) (fun _ _ _ _ _ => (pts_one (pt_cmpR op_notIn_sign (pv 2) (pe_glob rfl mc_FIGURES rel_str) (by rfl)))) (fun _ _ _ _ _ => (pv 2))) (pe_lst pa_nil) (nomark _))))) (pss_one ps_never) pss_nil)
      (pss_cons (ps_if (PW.pt (pw_and (pt_cmpR op_eq (pe_ix ix_str (pv 0) pe_int (fun _ _ => rfl)) pe_str (nomark _)) (pw_and1 (pt_cmpR op_ne (pv 0) pe_str (nomark _))))) (pss_one ps_never) pss_nil)
      (pss_one (ps_ret (pe_callTy call_int_str (by rfl) mb_int (by decide +kernel) (pa_cons (pv 0) pa_nil)))))), ?_⟩
    refine ⟨_, rfl, _, _, rfl, ⟨nline, rfl⟩, ?_⟩
    refine ⟨_, _, rfl, rfl, _, rfl, ifd_t (by show (1 : Int) ≤ ((numS n).length : Int); omega) ⟨_, _, rfl, rfl, _, rfl, ifnd_t (by show ((numS n).length : Int) ≤ 3; omega) ?_⟩⟩
    refine ⟨_, rfl, _, rfl, fun D hD => ?_⟩
    have s1 := same_new (o := .lst []) hD
    refine lc_signs (fun i H' => Same H H' ∧ H' D = some (.lst [])) ⟨s1, upd_same⟩ ?_ ?_
    · rintro i c H' hc ⟨s2, eD⟩
      have hm : c ∈ TL.tl (numS n) := by
        rw [← Array.getElem?_toList] at hc
        exact List.mem_of_getElem? hc
      refine ⟨rfl, _, rfl, c, _, rfl, rfl, _, rfl, ?_⟩
      rw [decide_eq_true (figures (numS_sign hn hm))]
      exact iteF ⟨s2, eD⟩
    · rintro H' ⟨s2, eD⟩
      refine ⟨Nat.zero_le _, fun z hz => ?_⟩
      have s3 := same_new (o := .lst []) hz
      have s13 := s2.trans s3
      have e0 : PyData.eqv (.list []) (.list []) = true := by decide +kernel
      refine ⟨.list [], .list [], .lst (SqL.of (s3 _ _ eD)) .nil, .lst (SqL.of upd_same) .nil, rfl, rfl, ?_⟩
      rw [e0]
      refine ⟨_, rfl, iteF ?_⟩
      obtain ⟨c, hc, h0⟩ := numS_head hn
      have last : ∃ v, some (some (V.str (numS n))) = some (some v) ∧ ∃ a m, [v] = [V.str a] ∧ intText? a = some m ∧ a.length ≤ 640 ∧ Q (.int m) (upd H' z (.lst [])) := ⟨_, rfl, _, n, rfl, numS_int hn, by omega, q _ s13⟩
      refine ⟨_, rfl, _, _, c, rfl, rfl, nline, hc, rfl, _, rfl, if2d (fun e => ?_) (fun _ => last)⟩
      have e48 : c = 48 := by
        injection e with e
        have e2 := congrArg (fun z : Str => z.cps.toList) e
        have e3 : (Str.ofString "0").cps.toList = [48] := by decide +kernel
        have e4 : [c] = [48] := e2.trans e3
        injection e4
      exact ⟨_, rfl, rfl, _, rfl, ifnd_t (by rw [h0 e48]) last⟩
end
end Ag

namespace Ag
open PySem PySem.Spec PyProof.Rows L2
/-! ### read -/
abbrev s_read : Stmt := top 18
def sp_read (K : PySem.W.Frag) : Sp := fun vs H Q _ => ∃ (v : V) (d : Disk) (l : List Ask), vs = [v, .str (textS l)] ∧ Dp K H v (dDisk d) ∧ GoodDisk d ∧ GoodAsks d l ∧
  ∀ (H' : Hp) (p : Addr) (xs : List V), Same H H' → H p = none → H' p = some (.lst xs) → DpAll K H' xs (l.map dAsk) → Q (.ref p) H'
/-- the lines of a text of asks -/
theorem lines_join {l : List Ask} {σ : L2.St} {H : Hp} {G : VK} (few : ∀ q ∈ l, ∀ n ∈ askNs q, Few n) (h40 : l.length ≤ 40) (hσ : σ[1]? = some (some (.str (textS l)))) (h : ∀ D, H D = none → G (.ref D) (upd H D (.lst ((l.map rowS).map V.str)))) :
    tIf (tTest (tOp rNe (tVar 1) (tC (V.str (Str.ofString ""))))) (tM1 (fun x xs H Q => ∃ a b, x = V.str a ∧ xs = [V.str b] ∧ (b.length == 0) = false ∧ a.length + 2 ≤ sizeLine ∧ rNewStrs (Txt.split a b) H Q) (tVar 1) (tC (V.str (Str.ofString "\n"))))
      (tLst tNil) σ H G := by
  refine ⟨_, hσ, rfl, _, rfl, ?_⟩
  have h480 := textS_len few h40
  by_cases hl : l = []
  · subst hl
    refine ifnd_t (by rw [textS_nil]) ⟨Nat.zero_le _, h⟩
  · refine ifnd_f (fun e => ?_) ⟨_, hσ, ⟨_, rfl⟩, _, _, rfl, rfl, by decide +kernel, Nat.le_of_lt (small1000 (by omega)), ?_⟩
    · injection e with e
      exact textS_ne few hl e
    · show rNewStrs (Txt.split (textS l) nlS) H G
      rw [textS_split few hl]
      exact h
theorem sc_read : FnScope ["disk", "text", "found", "lines", "row", "words", "word"] ["disk", "text"] (defScope s_read) := ⟨rfl, rfl, rfl, by decide +kernel, rfl, by decide +kernel, by decide +kernel⟩
section
variable {P : Program} {w : World} {K : PySem.W.Frag} {mg : Str → Option Value} {base : Heap}
theorem ok_read {f f1 f2 f3 : Addr} {fd fd1 fd2 fd3 : FuncData} (F : Fun K "read" "read" s_read f fd)
    (G_need_disk : FnOk P w K mg base CX0 1 f1 fd1 ["disk"] (sp_need_disk K)) (C_need_disk : Cal K mg "need_disk" f1 fd1 ["disk"])
    (G_need_asks : FnOk P w K mg base CX0 1 f2 fd2 ["disk", "asks"] (sp_need_asks K)) (C_need_asks : Cal K mg "need_asks" f2 fd2 ["disk", "asks"])
    (G_number_of : FnOk P w K mg base CX0 1 f3 fd3 ["word", "row"] (sp_number_of K)) (C_number_of : Cal K mg "number_of" f3 fd3 ["word", "row"])
    (mb_len : mg "len" = none) (mb_range : mg "range" = none) (mb_tuple : mg "tuple" = none) : FnOk P w K mg base CX0 2 f fd ["disk", "text"] (sp_read K) := by
  refine F.ok sc_read (fun vs H Q E h => ?_) (fun cdv A outer s H vs Q E hr h => ?_)
  · obtain ⟨v, d, l, rfl, _⟩ := h
    rfl
  · obtain ⟨v, d, l, rfl, hd, gd, g, q⟩ := h
    have nd := sc_read.nd
    have hr_need_disk : Room 1 _ := hr.mono (by decide)
    have hr_need_asks : Room 1 _ := hr.mono (by decide)
    have hr_number_of : Room 1 _ := hr.mono (by decide)
    have few : ∀ q ∈ l, ∀ n ∈ askNs q, Few n := fun q hq => askNs_few gd (g.all q hq)
    have h40 := g.len
    have h480 := textS_len few h40
    refine ⟨_, (pss_cons (ps_expr (pe_call G_need_disk hr_need_disk rfl C_need_disk.m C_need_disk.k C_need_disk.b .nil pass0 (pa_cons (pv 0) pa_nil)))
      (pss_cons (ps_set (i := 2) nd rfl (.inl rfl) (pe_lst pa_nil))
      (pss_cons (ps_set (i := 3) nd rfl (.inl rfl) (pe_ifExp (pt_cmpR op_ne (pv 1) pe_str (nomark _)) (pe_split (pv 1) pe_str) (pe_lst pa_nil)))
      (pss_cons (ps_for PassesOwn.never rfl (pi_range1 rfl mb_range (pa_cons (pe_callB call_len_seq (by rfl) mb_len PySem.boot_len (pa_cons (pv 3) pa_nil)) pa_nil)) (pg_name (i := 4) nd rfl (.inr rfl))
        (pss_cons (ps_set (i := 5) nd rfl (.inl rfl) (pe_split (pe_ix (r := rIxL K) ix_list (pv 3) (pv 4) (fun _ _ => rfl)) pe_str))
      (pss_cons (ps_if (pt_cmpR op_ne (pe_callB call_len_seq (by rfl) mb_len PySem.boot_len (pa_cons (pv 5) pa_nil)) pe_int (nomark _)) (pss_one ps_never) pss_nil)
      (pss_one (ps_expr (pe_bm PySem.F.plainAttrs_list PySem.F.slot_list_append PySem.F.type_list_append mt_append (pv 2) (pa_cons (pe_tupleOf rfl mb_tuple (pe_lc (own := [("word", 6)]) (g := (gName 6)) (tt := tYes) rfl nd (pi_list (pv 5)) (blkOk_by (own := [("word", 6)]) (N := ["disk", "text", "found", "lines", "row", "words", "word"]) (sc := defScope s_read) (by decide +kernel)) (fun _ _ _ _ _ => (pg_name (i := 6) nd rfl (.inl rfl))) (fun _ _ _ _ _ => pts_nil) (fun _ _ _ _ _ => (pe_call G_number_of hr_number_of rfl C_number_of.m C_number_of.k C_number_of.b .nil pass0 (pa_cons (pv 6) (pa_cons (pv 4) pa_nil)))))) pa_nil)))))))
      (pss_cons (ps_expr (pe_call G_need_asks hr_need_asks rfl C_need_asks.m C_need_asks.k C_need_asks.b .nil pass0 (pa_cons (pv 0) (pa_cons (pv 2) pa_nil))))
      (pss_one (ps_ret (pv 2)))))))), ?_⟩
    refine ⟨_, rfl, v, d, rfl, hd, gd, ?_⟩
    refine ⟨Nat.zero_le _, fun F hF => ?_⟩
    have s1 := same_new (o := .lst []) hF
    refine lines_join few h40 rfl fun L hL => ?_
    have s2 := same_new (o := .lst ((l.map rowS).map V.str)) hL
    have nFL : F ≠ L := ne_of_none upd_same hL
    have hll : ((l.map rowS).map V.str).length = l.length := by rw [List.length_map, List.length_map]
    refine ⟨_, rfl, L, (l.map rowS).map V.str, rfl, .inl (SqL.of upd_same), l.length, by rw [hll], by omega, by omega, ?_⟩
    refine for_range (lo := 0) (n := l.length) (fun i σ H' => SameBut F (upd (upd H F (.lst [])) L (.lst ((l.map rowS).map V.str))) H' ∧ ∃ (xs : List V) (v4 v5 : Option V), σ = [some v, some (.str (textS l)), some (.ref F), some (.ref L), v4, v5, none] ∧
        xs.length = i ∧ H' F = some (.lst xs) ∧ DpAll K (wo H' F) xs ((l.take i).map dAsk)) ⟨sb_refl, [], none, none, rfl, rfl, s2 _ _ upd_same, .nil⟩ ?_ ?_
    · rintro i σ H' hi ⟨sb, xs, v4, v5, rfl, hx, eF, hda⟩
      obtain ⟨k, hk⟩ : ∃ k, l[i]? = some k := ⟨_, List.getElem?_eq_getElem hi⟩
      have fk := few k (List.mem_of_getElem? hk)
      have eL := sb _ _ nFL.symm upd_same
      refine ⟨_, rfl, _, rfl, L, _, (i : Int), .str (rowS k), rfl, by rw [Int.zero_add], SqL.of eL, atI_nat (by rw [List.getElem?_map, List.getElem?_map, hk]; rfl), ?_⟩
      have es : Txt.split (rowS k) (Str.ofString " ") = (askNs k).map numS := rowS_split fk
      have hrl := (rowS_len fk).2
      refine ⟨⟨_, rfl⟩, _, _, rfl, rfl, by decide +kernel, Nat.le_of_lt (small1000 (by omega)), ?_⟩
      rw [es]
      intro W hW
      have s3 := same_new (o := .lst (((askNs k).map numS).map V.str)) hW
      have eF3 := s3 _ _ eF
      have nFW : F ≠ W := ne_of_none eF hW
      have sF3 : SameBut F (upd (upd H F (.lst [])) L (.lst ((l.map rowS).map V.str))) (upd H' W (.lst (((askNs k).map numS).map V.str))) := sb_trans sb (sb_of s3)
      have hda3 : DpAll K (wo (upd H' W (.lst (((askNs k).map numS).map V.str))) F) xs ((l.take i).map dAsk) := dpa_same (wo_mono s3) hda
      have eW : upd H' W (.lst (((askNs k).map numS).map V.str)) W = some (.lst (((askNs k).map numS).map V.str)) := upd_same
      revert eF3 sF3 hda3 eW
      generalize upd H' W (.lst (((askNs k).map numS).map V.str)) = H3
      intro eF3 sF3 hda3 eW
      refine ⟨_, rfl, W, _, rfl, .inl (SqL.of eW), rfl, _, rfl, ifnd_t rfl ?_⟩
      refine ⟨_, rfl, .inl ⟨rfl, _, SqL.of eF3⟩, ?_⟩
      refine ⟨_, rfl, W, rfl, ⟨_, SqL.of eW⟩, fun D hD => ?_⟩
      have s4 := same_new (o := .lst []) hD
      refine lc_list (K := K) (a := W) (xs := ((askNs k).map numS).map V.str) (fun j H'' => Same H3 H'' ∧ H'' D = some (.lst (((askNs k).take j).map V.int))) ⟨s4, upd_same⟩ (fun j H'' _ ⟨s, _⟩ => s.seq (SqL.of eW)) ?_ ?_
      · rintro j x H'' hj ⟨s5, eD⟩
        obtain ⟨n, hn, rfl⟩ : ∃ n, (askNs k)[j]? = some n ∧ x = .str (numS n) := by
          rw [List.getElem?_map, List.getElem?_map] at hj
          cases e : (askNs k)[j]? with
          | none => rw [e] at hj; cases hj
          | some n => rw [e] at hj; exact ⟨n, rfl, (Option.some.inj hj).symm⟩
        have hj3 : j < 3 := (List.getElem?_eq_some_iff.mp hn).1
        refine ⟨rfl, _, rfl, _, rfl, n, _, rfl, fk n (List.mem_of_getElem? hn), fun H4 s6 => ⟨_, s6 _ _ eD, ?_, same_upd (s5.trans s6) hD, ?_⟩⟩
        · rw [List.length_map, List.length_take]
          exact small1000 (by omega)
        · rw [upd_same, take_more hn, List.map_append]
          rfl
      · rintro H'' ⟨s5, eD⟩
        have e3 : (askNs k).take (((askNs k).map numS).map V.str).length = askNs k := rfl
        rw [e3] at eD
        refine .inl ⟨D, _, rfl, SqL.of eD, fun p hp => ?_⟩
        have s6 := same_new (o := HO.tup ((askNs k).map V.int)) hp
        have s36 := s5.trans s6
        have eF6 := s36 _ _ eF3
        have nFp : F ≠ p := ne_of_none (s5 _ _ eF3) hp
        refine ⟨F, xs, .ref p, rfl, rfl, eF6, small1000 (by omega), ?_⟩
        refine ⟨sb_upd (sb_trans sF3 (sb_of s36)), xs ++ [.ref p], some (.int (0 + (i : Int))), some (.ref W), rfl, by rw [List.length_append, hx]; rfl, upd_same, ?_⟩
        rw [take_more hk, List.map_append]
        refine dpa_snoc (dpa_same (sb_wo (sb_upd (sb_of s36))) hda3) ?_
        exact dp_tints_of (ns := askNs k) (.inl (.inl (by rw [wo_ne nFp.symm, upd_ne nFp.symm, upd_same])))
    · rintro σ H' ⟨sb, xs, v4, v5, rfl, hx, eF, hda⟩
      rw [List.take_of_length_le (Nat.le_refl _)] at hda
      have s4 : Same H H' := same_sb (s1.trans s2 : Same H _) hF sb
      have hda' := dpa_same wo_sub hda
      exact ⟨_, rfl, _, rfl, v, _, d, l, rfl, dp_same s4 hd, .lst (SqL.of eF) hda', g, _, rfl, q H' F xs s4 hF eF hda'⟩
end
end Ag

namespace Ag
open PySem PySem.Spec PyProof.Rows L2
/-! ### the law's text -/
abbrev s_l_text : Stmt := top 24
def sp_l_text (K : PySem.W.Frag) : Sp := fun vs H Q _ => ∃ (u : V) (l : List Ask), vs = [u] ∧ Dp K H u (dAsks l) ∧ l.length ≤ 40 ∧ (∀ q ∈ l, ∀ n ∈ askNs q, Few n) ∧ ∀ H', Same H H' → Q (.str (textS l)) H'
theorem sc_l_text : FnScope ["_law_asks_here", "_law_come", "_law_track", "_law_sector"] ["_law_asks_here"] (defScope s_l_text) := ⟨rfl, rfl, rfl, by decide +kernel, rfl, by decide +kernel, by decide +kernel⟩
section
variable {P : Program} {w : World} {K : PySem.W.Frag} {mg : Str → Option Value} {base : Heap}
theorem ok_l_text {f : Addr} {fd : FuncData} (F : Fun K "_law_text" "_law_text" s_l_text f fd) (mb_str : mg "str" = none) : FnOk P w K mg base CX0 1 f fd ["_law_asks_here"] (sp_l_text K) := by
  refine F.ok sc_l_text (fun vs H Q E h => ?_) (fun cdv A outer s H vs Q E hr h => ?_)
  · obtain ⟨u, l, rfl, _⟩ := h
    rfl
  · obtain ⟨u, l, rfl, ha, h40, few, q⟩ := h
    have nd := sc_l_text.nd
    obtain ⟨b, xs, rfl, hL, hlen, hat⟩ := dp_asks ha
    refine ⟨_, (pss_one (ps_ret (pe_join pe_str (pe_lc (own := [("_law_come", 1), ("_law_track", 2), ("_law_sector", 3)]) (g := (gTup K 3 (gCons (gName 1) (gCons (gName 2) (gCons (gName 3) gNil))))) (tt := tYes) rfl nd (pi_list (pv 0)) (blkOk_by (own := [("_law_come", 1), ("_law_track", 2), ("_law_sector", 3)]) (N := ["_law_asks_here", "_law_come", "_law_track", "_law_sector"]) (sc := defScope s_l_text) (by decide +kernel)) (fun _ _ _ _ _ => (pg_tup rfl (pgs_cons (pg_name (i := 1) nd rfl (.inl rfl)) (pgs_cons (pg_name (i := 2) nd rfl (.inl rfl)) (pgs_cons (pg_name (i := 3) nd rfl (.inl rfl)) pgs_nil))))) (fun _ _ _ _ _ => pts_nil) (fun _ _ _ _ _ => (pe_op op_add_str (pe_op op_add_str (pe_op op_add_str (pe_op op_add_str (pe_callTy call_str_int (by rfl) mb_str (by decide +kernel) (pa_cons (pv 1) pa_nil)) pe_str) (pe_callTy call_str_int (by rfl) mb_str (by decide +kernel) (pa_cons (pv 2) pa_nil))) pe_str) (pe_callTy call_str_int (by rfl) mb_str (by decide +kernel) (pa_cons (pv 3) pa_nil)))))))), ?_⟩
    refine ⟨⟨_, rfl⟩, _, rfl, b, rfl, ⟨xs, hL⟩, fun D hD => ?_⟩
    have s1 := same_new (o := .lst []) hD
    refine lc_list (K := K) (a := b) (xs := xs) (fun i H' => Same H H' ∧ H' D = some (.lst (((l.take i).map rowS).map V.str))) ⟨s1, upd_same⟩ (fun i H' _ ⟨s, _⟩ => s.seq hL) ?_ ?_
    · rintro i x H' hi ⟨s2, eD⟩
      have hlt : i < xs.length := (List.getElem?_eq_some_iff.mp hi).1
      obtain ⟨k, hk⟩ : ∃ k, l[i]? = some k := ⟨_, List.getElem?_eq_getElem (by omega)⟩
      obtain ⟨p, hp, hpT, _⟩ := hat i k hk
      obtain rfl : x = .ref p := Option.some.inj (hi.symm.trans hp)
      have fk := few k (List.mem_of_getElem? hk)
      have f1 : Few k.1 := fk _ (by simp [askNs])
      have f2 : Few k.2.1 := fk _ (by simp [askNs])
      have f3 : Few k.2.2 := fk _ (by simp [askNs])
      have l1 := (numS_len f1).2
      have l2 := (numS_len f2).2
      have l3 := (numS_len f3).2
      have e1 : spS.length = 1 := by decide +kernel
      have small : ∀ {n : Nat}, n ≤ 1000 → n ≤ sizeLine := fun h => Nat.le_of_lt (small1000 h)
      have a1 : (numS k.1 ++ spS).length ≤ 4 := by rw [Str.length_append]; omega
      have a2 : (numS k.1 ++ spS ++ numS k.2.1).length ≤ 7 := by rw [Str.length_append]; omega
      have a3 : (numS k.1 ++ spS ++ numS k.2.1 ++ spS).length ≤ 8 := by rw [Str.length_append]; omega
      refine ⟨p, _, rfl, same_sqt s2 hpT, rfl, _, _, rfl, _, _, rfl, _, _, rfl, rfl, rfl, ?_⟩
      refine ⟨_, rfl, k.1, rfl, log2_small f1, numS k.1, spS, rfl, rfl, small (by omega), ?_⟩
      refine ⟨_, rfl, k.2.1, rfl, log2_small f2, _, numS k.2.1, rfl, rfl, small (by omega), ?_⟩
      refine ⟨_, spS, rfl, rfl, small (by omega), ?_⟩
      refine ⟨_, rfl, k.2.2, rfl, log2_small f3, _, numS k.2.2, rfl, rfl, small (by omega), ?_⟩
      rw [rowS_law]
      refine ⟨_, eD, ?_, same_upd s2 hD, ?_⟩
      · rw [List.length_map, List.length_map, List.length_take]
        exact small1000 (by omega)
      · rw [upd_same, take_more hk, List.map_append, List.map_append]
        rfl
    · rintro H' ⟨s2, eD⟩
      rw [List.take_of_length_le (by omega)] at eD
      refine ⟨_, D, l.map rowS, rfl, rfl, .inl (SqL.of eD), ?_, ?_⟩
      · have := sum_len (k := 11) (ws := l.map rowS) fun z hz => by
          obtain ⟨n, hn, rfl⟩ := List.mem_map.mp hz
          exact (rowS_len (few n hn)).2
        have e2 : nlS.length = 1 := by decide +kernel
        rw [List.length_map] at this ⊢
        show _ + l.length * nlS.length ≤ _
        rw [e2]
        omega
      · exact q _ s2
end
end Ag

namespace Ag
open PySem PySem.Spec PyProof.Rows L2
/-! ### the law's draws: any number in range -/
abbrev s_l_taken : Stmt := top 20
def sp_l_taken (K : PySem.W.Frag) : Sp := fun vs H Q _ => ∃ (r : Addr) (many : Int), vs = [.ref r, .int many] ∧ RowAt K H r ∧ 0 < many ∧ ∀ (H' : Hp) (v : Int), 0 ≤ v → v < many → RowAt K H' r → SameBut r H H' → Q (.int v) H'
theorem sc_l_taken : FnScope ["_law_row", "_law_many", "_law_cell"] ["_law_row", "_law_many"] (defScope s_l_taken) := ⟨rfl, rfl, rfl, by decide +kernel, rfl, by decide +kernel, by decide +kernel⟩
section
variable {P : Program} {w : World} {K : PySem.W.Frag} {mg : Str → Option Value} {base : Heap}
theorem ok_l_taken {f : Addr} {fd : FuncData} (F : Fun K "_law_taken" "_law_taken" s_l_taken f fd) (ml : mg "len" = none) : FnOk P w K mg base CX0 1 f fd ["_law_row", "_law_many"] (sp_l_taken K) := by
  refine F.ok sc_l_taken (fun vs H Q E h => ?_) (fun cdv A outer s H vs Q E hr h => ?_)
  · obtain ⟨r, many, rfl, _⟩ := h
    rfl
  · obtain ⟨r, many, rfl, ⟨a, ns, pos, mix, p0, hR, hS⟩, hm, q⟩ := h
    have nd := sc_l_taken.nd
    refine ⟨_, pss_cons (ps_asg (pe_op op_add (pe_ix ix_list (pv 0) pe_int (fun _ _ => rfl)) pe_int) (pg_sub (pv 0) pe_int set_list))
      (pss_cons (ps_if (pt_cmpR op_gt (pe_ix ix_list (pv 0) pe_int (fun _ _ => rfl)) (pe_callB call_len_seq (by rfl) ml PySem.boot_len (pa_cons (pe_ix ix_list (pv 0) pe_int (fun _ _ => rfl)) pa_nil)) (nomark _))
        (pss_cons (ps_asg (pe_op op_mod (pe_op op_add (pe_op op_mul (pe_ix ix_list (pv 0) pe_int (fun _ _ => rfl)) pe_int) pe_int) pe_int) (pg_sub (pv 0) pe_int set_list))
          (pss_one (ps_ret (pe_op op_mod (pe_op op_fdiv (pe_ix ix_list (pv 0) pe_int (fun _ _ => rfl)) pe_int) (pv 1))))) pss_nil)
      (pss_cons (ps_set (i := 2) nd rfl (.inl rfl) (pe_ix ix_list (pe_ix ix_list (pv 0) pe_int (fun _ _ => rfl)) (pe_op op_sub (pe_ix ix_list (pv 0) pe_int (fun _ _ => rfl)) pe_int) (fun _ _ => rfl)))
      (pss_cons (ps_asg (pe_op op_mod (pe_op op_add (pe_op op_add (pe_op op_mul (pe_ix ix_list (pv 0) pe_int (fun _ _ => rfl)) pe_int) (pv 2)) pe_int) pe_int) (pg_sub (pv 0) pe_int set_list))
      (pss_one (ps_ret (pe_op op_mod (pv 2) (pv 1))))))), ?_⟩
    refine ⟨_, rfl, r, _, 1, _, rfl, rfl, SqL.of hR, atI_nat (j := 1) rfl, _, _, rfl, rfl, _, rfl, r, _, _, 1, rfl, rfl, hR, rfl, ?_⟩
    have h1 : upd H r (.lst ([V.ref a, .int pos, .int mix].set 1 (.int (pos + 1)))) r = some (.lst [V.ref a, .int (pos + 1), .int mix]) := upd_same
    have hS1 : ScrAt K (upd H r (.lst ([V.ref a, .int pos, .int mix].set 1 (.int (pos + 1))))) a ns := hS.put hR
    have b1 : SameBut r H (upd H r (.lst ([V.ref a, .int pos, .int mix].set 1 (.int (pos + 1))))) := sb_upd sb_refl
    revert h1 hS1 b1
    generalize upd H r (.lst ([V.ref a, .int pos, .int mix].set 1 (.int (pos + 1)))) = H1
    intro h1 hS1 b1
    refine ⟨_, rfl, r, _, 1, _, rfl, rfl, SqL.of h1, atI_nat (j := 1) rfl, _, rfl, r, _, 0, _, rfl, rfl, SqL.of h1, atI_nat (j := 0) rfl, a, _, rfl, .inl hS1.sql, _, _, rfl, rfl, _, rfl, if2d (fun _ => ?_) (fun hle => ?_)⟩
    · refine ⟨_, rfl, r, _, 2, _, rfl, rfl, SqL.of h1, atI_nat (j := 2) rfl, _, _, rfl, rfl, .inr ⟨by decide, by decide⟩, _, _, rfl, rfl, _, _, rfl, rfl, (by show (0 : Int) < 2147483647; decide), _, rfl, r, _, _, 2, rfl, rfl, h1, rfl, ?_⟩
      refine ⟨_, rfl, r, [V.ref a, .int (pos + 1), .int ((mix * 48271 + 11) % 2147483647)], 2, _, rfl, rfl, .inl (.inl upd_same), atI_nat (j := 2) rfl, _, _, rfl, rfl, ⟨by decide, by decide⟩, _, rfl, _, _, rfl, rfl, hm, ?_⟩
      refine q _ _ (Int.emod_nonneg _ (by omega)) (Int.emod_lt_of_pos _ hm) ⟨a, ns, pos + 1, _, by omega, upd_same, hS1.put h1⟩ (sb_upd b1)
    · rw [List.length_map] at hle
      have hlt : pos.toNat < ns.length := by omega
      obtain ⟨z, hz⟩ : ∃ z, ns[pos.toNat]? = some z := ⟨_, List.getElem?_eq_getElem hlt⟩
      refine ⟨_, rfl, r, _, 0, _, rfl, rfl, SqL.of h1, atI_nat (j := 0) rfl, _, rfl, r, _, 1, _, rfl, rfl, SqL.of h1, atI_nat (j := 1) rfl, _, _, rfl, rfl, a, _, _, .int z, rfl, rfl, hS1.sql, at_of (j := pos.toNat) (by omega) (by rw [List.getElem?_map, hz]; rfl), ?_⟩
      refine ⟨_, rfl, r, _, 2, _, rfl, rfl, SqL.of h1, atI_nat (j := 2) rfl, _, _, rfl, rfl, .inr ⟨by decide, by decide⟩, _, rfl, _, _, rfl, rfl, _, _, rfl, rfl, _, _, rfl, rfl, (by show (0 : Int) < 2147483647; decide), _, rfl, r, _, _, 2, rfl, rfl, h1, rfl, ?_⟩
      refine ⟨_, rfl, _, rfl, _, _, rfl, rfl, hm, ?_⟩
      refine q _ _ (Int.emod_nonneg _ (by omega)) (Int.emod_lt_of_pos _ hm) ⟨a, ns, pos + 1, _, by omega, upd_same, hS1.put h1⟩ (sb_upd b1)
end
/-! ### the law's disks: any good one -/
abbrev s_l_disk : Stmt := top 22
def sp_l_disk (K : PySem.W.Frag) : Sp := fun vs H Q _ => ∃ (r : Addr), vs = [.ref r] ∧ RowAt K H r ∧ ∀ (H' : Hp) (p : Addr) (d : Disk), GoodDisk d → RowAt K H' r → SameBut r H H' → p ≠ r → H' p = some (.tup ([d.tr, d.sc, d.pa, d.he].map V.int)) → Q (.ref p) H'
theorem sc_l_disk : FnScope ["_law_row", "_law_tracks", "_law_sectors"] ["_law_row"] (defScope s_l_disk) := ⟨rfl, rfl, rfl, by decide +kernel, rfl, by decide +kernel, by decide +kernel⟩
theorem row_keep {K : PySem.W.Frag} {H H' : Hp} {r p : Addr} {o : HO} (h : RowAt K H r) (e : H p = some o) (n : p ≠ r) (s : SameBut r H H') : H' p = some o := s _ _ n e
section
variable {P : Program} {w : World} {K : PySem.W.Frag} {mg : Str → Option Value} {base : Heap}
theorem ok_l_disk {f fT : Addr} {fd fdT : FuncData} (F : Fun K "_law_disk" "_law_disk" s_l_disk f fd) (GT : FnOk P w K mg base CX0 1 fT fdT ["_law_row", "_law_many"] (sp_l_taken K)) (gT : mg "_law_taken" = some (.ref fT)) (kT : PySem.W.keepIn K (.ref fT) = true) (bT : Binds K fdT ["_law_row", "_law_many"] []) :
    FnOk P w K mg base CX0 2 f fd ["_law_row"] (sp_l_disk K) := by
  refine F.ok sc_l_disk (fun vs H Q E h => ?_) (fun cdv A outer s H vs Q E hr h => ?_)
  · obtain ⟨r, rfl, _⟩ := h
    rfl
  · obtain ⟨r, rfl, hR, q⟩ := h
    have nd := sc_l_disk.nd
    have hr1 : Room 1 _ := hr
    refine ⟨_, pss_cons (ps_set (i := 1) nd rfl (.inl rfl) (pe_op op_add pe_int (pe_call GT hr1 rfl gT kT bT .nil pass0 (pa_cons (pv 0) (pa_cons (pe_ix ix_list (pe_lst (pa_cons pe_int (pa_cons pe_int pa_nil))) (pe_call GT hr1 rfl gT kT bT .nil pass0 (pa_cons (pv 0) (pa_cons pe_int pa_nil))) (fun _ _ => rfl)) pa_nil)))))
      (pss_cons (ps_set (i := 2) nd rfl (.inl rfl) (pe_op op_add pe_int (pe_call GT hr1 rfl gT kT bT .nil pass0 (pa_cons (pv 0) (pa_cons (pe_ix ix_list (pe_lst (pa_cons pe_int (pa_cons pe_int pa_nil))) (pe_call GT hr1 rfl gT kT bT .nil pass0 (pa_cons (pv 0) (pa_cons pe_int pa_nil))) (fun _ _ => rfl)) pa_nil)))))
      (pss_one (ps_ret (pe_tup (pa_cons (pv 1) (pa_cons (pv 2) (pa_cons (pe_op op_add pe_int (pe_call GT hr1 rfl gT kT bT .nil pass0 (pa_cons (pv 0) (pa_cons pe_int pa_nil)))) (pa_cons (pe_call GT hr1 rfl gT kT bT .nil pass0 (pa_cons (pv 0) (pa_cons (pv 1) pa_nil))) pa_nil)))))))), ?_⟩
    refine ⟨_, rfl, (by show 2 ≤ sizeLine; decide), fun L hL => ?_⟩
    have nL := hR.ne hL
    refine ⟨_, rfl, r, 2, rfl, hR.but (same_new hL), by decide, fun H1 v v0 v1 hR1 s1 => ?_⟩
    have eL : H1 L = some (.lst [.int 8, .int 64]) := s1 _ _ nL upd_same
    have sb1 : SameBut r H H1 := sb_trans (sb_of (same_new hL)) s1
    obtain ⟨k, hk, k8⟩ : ∃ k : Int, atI [V.int 8, .int 64] v = some (.int k) ∧ (1 ≤ k ∧ k ≤ 64) := by
      rcases (by omega : v = 0 ∨ v = 1) with rfl | rfl
      · exact ⟨8, rfl, by decide⟩
      · exact ⟨64, rfl, by decide⟩
    refine ⟨L, _, v, _, rfl, rfl, SqL.of eL, hk, r, k, rfl, hR1, by omega, fun H2 v2 v20 v21 hR2 s2 => ?_⟩
    have sb2 := sb_trans sb1 s2
    refine ⟨_, _, rfl, rfl, ?_⟩
    refine ⟨_, rfl, (by show 2 ≤ sizeLine; decide), fun L2 hL2 => ?_⟩
    have nL2 := hR2.ne hL2
    refine ⟨_, rfl, r, 2, rfl, hR2.but (same_new hL2), by decide, fun H3 v3 v30 v31 hR3 s3 => ?_⟩
    have eL2 : H3 L2 = some (.lst [.int 4, .int 16]) := s3 _ _ nL2 upd_same
    have sb3 : SameBut r H H3 := sb_trans sb2 (sb_trans (sb_of (same_new hL2)) s3)
    obtain ⟨k2, hk2, k28⟩ : ∃ k : Int, atI [V.int 4, .int 16] v3 = some (.int k) ∧ (1 ≤ k ∧ k ≤ 16) := by
      rcases (by omega : v3 = 0 ∨ v3 = 1) with rfl | rfl
      · exact ⟨4, rfl, by decide⟩
      · exact ⟨16, rfl, by decide⟩
    refine ⟨L2, _, v3, _, rfl, rfl, SqL.of eL2, hk2, r, k2, rfl, hR3, by omega, fun H4 v4 v40 v41 hR4 s4 => ?_⟩
    have sb4 := sb_trans sb3 s4
    refine ⟨_, _, rfl, rfl, ?_⟩
    refine ⟨_, rfl, _, rfl, _, rfl, r, 4, rfl, hR4, by decide, fun H5 v5 v50 v51 hR5 s5 => ?_⟩
    refine ⟨_, _, rfl, rfl, _, rfl, _, rfl, r, 1 + v2, rfl, hR5, by omega, fun H6 v6 v60 v61 hR6 s6 => ?_⟩
    refine ⟨(by show 4 ≤ sizeLine; decide), fun p hp => ?_⟩
    have sb6 := sb_trans sb4 (sb_trans s5 s6)
    exact q _ p ⟨1 + v2, 1 + v4, 1 + v5, v6⟩ ⟨by show 1 ≤ 1 + v2; omega, by show 1 + v2 ≤ 64; omega, by show 1 ≤ 1 + v4; omega, by show 1 + v4 ≤ 16; omega, by show 1 ≤ 1 + v5; omega, by show 1 + v5 ≤ 4; omega, v60, v61⟩
      (hR6.but (same_new hp)) (sb_new sb6 hp) (hR6.ne hp) upd_same
end
/-! ### the law's asks: any good ones, no more than it says -/
abbrev s_l_asks : Stmt := top 23
def sp_l_asks (K : PySem.W.Frag) : Sp := fun vs H Q _ => ∃ (r : Addr) (v : V) (d : Disk) (most : Int), vs = [.ref r, v, .int most] ∧ RowAt K H r ∧ Dp K (wo H r) v (dDisk d) ∧ GoodDisk d ∧ 0 ≤ most ∧ most ≤ 40 ∧
  ∀ (H' : Hp) (p : Addr) (l : List Ask) (xs : List V), GoodAsks d l → (l.length : Int) ≤ most → RowAt K H' r → SameBut r H H' → p ≠ r → H p = none → H' p = some (.lst xs) → DpAll K (wo (wo H' r) p) xs (l.map dAsk) → Q (.ref p) H'
theorem sc_l_asks : FnScope ["_law_row", "_law_disk_here", "_law_most", "_law_often", "_law_few", "_law_found", "_law_k"] ["_law_row", "_law_disk_here", "_law_most"] (defScope s_l_asks) := ⟨rfl, rfl, rfl, by decide +kernel, rfl, by decide +kernel, by decide +kernel⟩
section
variable {P : Program} {w : World} {K : PySem.W.Frag} {mg : Str → Option Value} {base : Heap}
theorem ok_l_asks {f fT : Addr} {fd fdT : FuncData} (F : Fun K "_law_asks" "_law_asks" s_l_asks f fd) (GT : FnOk P w K mg base CX0 1 fT fdT ["_law_row", "_law_many"] (sp_l_taken K)) (gT : mg "_law_taken" = some (.ref fT)) (kT : PySem.W.keepIn K (.ref fT) = true) (bT : Binds K fdT ["_law_row", "_law_many"] [])
    (mm : mg "min" = none) (mr : mg "range" = none) : FnOk P w K mg base CX0 2 f fd ["_law_row", "_law_disk_here", "_law_most"] (sp_l_asks K) := by
  refine F.ok sc_l_asks (fun vs H Q E h => ?_) (fun cdv A outer s H vs Q E hr h => ?_)
  · obtain ⟨r, v, d, most, rfl, _⟩ := h
    rfl
  · obtain ⟨r, v, d, most, rfl, hR, hd, g, m0, m40, q⟩ := h
    obtain ⟨a, rfl, hT⟩ := dp_disk hd
    have nd := sc_l_asks.nd
    have hr1 : Room 1 _ := hr
    have hTB : ∀ {H' : Hp}, SameBut r H H' → SqT K H' a [.int d.tr, .int d.sc, .int d.pa, .int d.he] := fun s => same_sqt wo_sub (same_sqt (sb_wo s) hT)
    refine ⟨_, pss_cons (ps_set (i := 3) nd rfl (.inl rfl) (pe_ix ix_list (pe_lst (pa_cons pe_int (pa_cons pe_int (pa_cons pe_int (pa_cons pe_int pa_nil))))) (pe_call GT hr1 rfl gT kT bT .nil pass0 (pa_cons (pv 0) (pa_cons pe_int pa_nil))) (fun _ _ => rfl)))
      (pss_cons (ps_set (i := 4) nd rfl (.inl rfl) (pe_ix ix_list (pe_lst (pa_cons (pe_ix ix_tup (pv 1) pe_int (fun _ _ => rfl)) (pa_cons (pe_callB (call_min2 rfl) (by rfl) mm (by decide +kernel) (pa_cons (pe_ix ix_tup (pv 1) pe_int (fun _ _ => rfl)) (pa_cons pe_int pa_nil))) pa_nil))) (pe_call GT hr1 rfl gT kT bT .nil pass0 (pa_cons (pv 0) (pa_cons pe_int pa_nil))) (fun _ _ => rfl)))
      (pss_cons (ps_set (i := 5) nd rfl (.inl rfl) (pe_lst pa_nil))
      (pss_cons (ps_for PassesOwn.never rfl (pi_range1 rfl mr (pa_cons (pe_call GT hr1 rfl gT kT bT .nil pass0 (pa_cons (pv 0) (pa_cons (pe_op op_add (pv 2) pe_int) pa_nil))) pa_nil)) (pg_name (i := 6) nd rfl (.inl rfl))
        (pss_one (ps_expr (pe_bm PySem.F.plainAttrs_list PySem.F.slot_list_append PySem.F.type_list_append mt_append (pv 5) (pa_cons (pe_tup (pa_cons (pe_call GT hr1 rfl gT kT bT .nil pass0 (pa_cons (pv 0) (pa_cons (pv 3) pa_nil))) (pa_cons (pe_call GT hr1 rfl gT kT bT .nil pass0 (pa_cons (pv 0) (pa_cons (pv 4) pa_nil)))
          (pa_cons (pe_call GT hr1 rfl gT kT bT .nil pass0 (pa_cons (pv 0) (pa_cons (pe_ix ix_tup (pv 1) pe_int (fun _ _ => rfl)) pa_nil))) pa_nil)))) pa_nil)))))
      (pss_one (ps_ret (pv 5)))))), ?_⟩
    refine ⟨(by show 4 ≤ sizeLine; decide), fun L hL => ?_⟩
    have nL := hR.ne hL
    refine ⟨_, rfl, r, 4, rfl, hR.but (same_new hL), by decide, fun H1 v v0 v1 hR1 s1 => ?_⟩
    have eL : H1 L = some (.lst [.int 1, .int 5, .int 60, .int 1000]) := s1 _ _ nL upd_same
    have sb1 : SameBut r H H1 := sb_trans (sb_of (same_new hL)) s1
    obtain ⟨k, hk, k8⟩ : ∃ k : Int, atI [V.int 1, .int 5, .int 60, .int 1000] v = some (.int k) ∧ (1 ≤ k ∧ k ≤ 1000) := by
      rcases (by omega : v = 0 ∨ v = 1 ∨ v = 2 ∨ v = 3) with rfl | rfl | rfl | rfl
      · exact ⟨1, rfl, by decide⟩
      · exact ⟨5, rfl, by decide⟩
      · exact ⟨60, rfl, by decide⟩
      · exact ⟨1000, rfl, by decide⟩
    refine ⟨L, _, v, _, rfl, rfl, SqL.of eL, hk, ?_⟩
    refine ⟨_, rfl, a, _, 0, _, rfl, rfl, hTB sb1, atI_nat (j := 0) rfl, _, rfl, a, _, 0, _, rfl, rfl, hTB sb1, atI_nat (j := 0) rfl, _, _, rfl, (by show 2 ≤ sizeLine; decide), fun L2 hL2 => ?_⟩
    have nL2 := hR1.ne hL2
    refine ⟨_, rfl, r, 2, rfl, hR1.but (same_new hL2), by decide, fun H2 v2 v20 v21 hR2 s2 => ?_⟩
    have eL2 : H2 L2 = some (.lst [.int d.tr, .int (if (4 : Int) < d.tr then 4 else d.tr)]) := s2 _ _ nL2 upd_same
    have sb2 : SameBut r H H2 := sb_trans sb1 (sb_trans (sb_of (same_new hL2)) s2)
    have ht1 := g.t1
    obtain ⟨k2, hk2, k28⟩ : ∃ k : Int, atI [V.int d.tr, .int (if (4 : Int) < d.tr then 4 else d.tr)] v2 = some (.int k) ∧ (1 ≤ k ∧ k ≤ d.tr) := by
      rcases (by omega : v2 = 0 ∨ v2 = 1) with rfl | rfl
      · exact ⟨d.tr, rfl, by omega⟩
      · exact ⟨_, rfl, by split <;> omega⟩
    refine ⟨L2, _, v2, _, rfl, rfl, SqL.of eL2, hk2, Nat.zero_le _, fun F hF => ?_⟩
    have nF := hR2.ne hF
    have hF0 : H F = none := sb_free sb2 nF hF
    refine ⟨_, rfl, _, rfl, _, _, rfl, rfl, r, most + 1, rfl, hR2.but (same_new hF), by omega, fun H3 n n0 n1 hR3 s3 => ?_⟩
    have sb3 : SameBut r H H3 := sb_trans sb2 (sb_trans (sb_of (same_new hF)) s3)
    have eF3 : H3 F = some (.lst []) := s3 _ _ nF upd_same
    refine ⟨n, rfl, by omega, by omega, ?_⟩
    refine for_range (lo := 0) (n := n.toNat) (fun i σ H' => RowAt K H' r ∧ SameBut r H H' ∧ ∃ (l : List Ask) (xs : List V) (v6 : Option V), σ = [some (.ref r), some (.ref a), some (.int most), some (.int k), some (.int k2), some (.ref F), v6] ∧
        l.length = i ∧ xs.length = i ∧ (∀ x ∈ l, GoodAsk d x) ∧ H' F = some (.lst xs) ∧ DpAll K (wo (wo H' r) F) xs (l.map dAsk)) ⟨hR3, sb3, [], [], none, rfl, rfl, rfl, fun x hx => absurd hx (by simp), eF3, .nil⟩ ?_ ?_
    · rintro i σ H' hi ⟨hR', sb', l, xs, v6, rfl, hl, hx, hg, eF, hda⟩
      refine ⟨_, rfl, .inl ⟨rfl, _, SqL.of eF⟩, ?_⟩
      refine ⟨_, rfl, _, rfl, r, k, rfl, hR', by omega, fun H4 c c0 c1 hR4 s4 => ?_⟩
      refine ⟨_, rfl, _, rfl, r, k2, rfl, hR4, by omega, fun H5 t t0 t1 hR5 s5 => ?_⟩
      have sb5 := sb_trans sb' (sb_trans s4 s5)
      refine ⟨_, rfl, _, rfl, a, _, 1, _, rfl, rfl, hTB sb5, atI_nat (j := 1) rfl, r, d.sc, rfl, hR5, (by have := g.s1; omega), fun H6 z z0 z1 hR6 s6 => ?_⟩
      refine ⟨(by show 3 ≤ sizeLine; decide), fun p hp => ?_⟩
      have sb6 := sb_trans sb5 s6
      have sF6 := sb_trans s4 (sb_trans s5 s6)
      have eF6 : H6 F = some (.lst xs) := sF6 _ _ nF eF
      have nFp : F ≠ p := ne_of_none eF6 hp
      have npr : p ≠ r := hR6.ne hp
      refine ⟨F, xs, .ref p, rfl, rfl, by rw [upd_ne nFp]; exact eF6, small1000 (by omega), ?_⟩
      refine ⟨(hR6.but (same_new hp)).put nF (by rw [upd_ne nFp]; exact eF6), sb_old (sb_new sb6 hp) hF0, l ++ [(c, t, z)], xs ++ [.ref p], some (.int (0 + (i : Int))), rfl, by rw [List.length_append, hl]; rfl, by rw [List.length_append, hx]; rfl, ?_, upd_same, ?_⟩
      · intro x hx'
        rcases List.mem_append.mp hx' with h | h
        · exact hg x h
        · rw [List.mem_singleton.mp h]
          exact ⟨c0, by show c ≤ 999; omega, t0, by show t < d.tr; omega, z0, z1⟩
      · rw [List.map_append]
        refine dpa_snoc (dpa_same ?_ hda) ?_
        · exact wo2_step fun b o n1 n2 e => by rw [upd_ne n2, upd_ne (ne_of_none (sF6 b o n1 e) hp)]; exact sF6 b o n1 e
        · exact dp_tints_of (ns := [c, t, z]) (.inl (.inl (by rw [wo_ne nFp.symm, wo_ne npr, upd_ne nFp.symm, upd_same]; rfl)))
    · rintro σ H' ⟨hR', sb', l, xs, v6, rfl, hl, hx, hg, eF, hda⟩
      exact ⟨_, rfl, q H' F l xs ⟨by omega, hg⟩ (by omega) hR' sb' nF hF0 eF hda⟩
end
/-! ### the law's look at two answers: the same data is alike -/
abbrev s_l_alike : Stmt := top 21
def okD : Nat → PyData → Prop
  | 0, _ => False
  | n + 1, .list ds => ds.length ≤ 1000000 ∧ ∀ d ∈ ds, okD n d
  | n + 1, .tuple ds => ds.length ≤ 1000000 ∧ ∀ d ∈ ds, okD n d
  | _ + 1, .dict _ => False
  | _ + 1, _ => True
theorem okD_int (n : Nat) (i : Int) : okD (n + 1) (.int i) := by simp [okD]
theorem okD_str (n : Nat) (i : Str) : okD (n + 1) (.str i) := by simp [okD]
theorem okD_list {n : Nat} {ds : List PyData} (h : ds.length ≤ 1000000) (h2 : ∀ d ∈ ds, okD n d) : okD (n + 1) (.list ds) := by
  unfold okD
  exact ⟨h, h2⟩
theorem okD_tuple {n : Nat} {ds : List PyData} (h : ds.length ≤ 1000000) (h2 : ∀ d ∈ ds, okD n d) : okD (n + 1) (.tuple ds) := by
  unfold okD
  exact ⟨h, h2⟩
theorem okD_ints (n : Nat) (ns : List Int) : ∀ d ∈ ns.map PyData.int, okD (n + 1) d := fun d hd => by
  obtain ⟨i, _, rfl⟩ := List.mem_map.mp hd
  exact okD_int n i
def tyN : PyData → String
  | .none => "NoneType"
  | .bool _ => "bool"
  | .int _ => "int"
  | .str _ => "str"
  | .list _ => "list"
  | .tuple _ => "tuple"
  | .dict _ => "dict"
theorem dp_ty {K : PySem.W.Frag} {H : Hp} {x : V} : ∀ {d : PyData}, Dp K H x d → TyX K H x (.type (tyN d))
  | .none, h => by cases h; exact .base .non
  | .bool _, h => by cases h; exact .base (.bl _)
  | .int _, h => by cases h; exact .base (.int _)
  | .str _, h => by cases h; exact .base (.str _)
  | .list _, h => by
    cases h with
    | lst hs ha =>
      rcases hs with (h | ⟨o, h⟩) | ⟨o, its, n, h, c, _⟩
      · exact .base (.lst h)
      · exact .base (.frz h)
      · exact .kList h c
  | .tuple _, h => by
    cases h with
    | tup hs ha =>
      rcases hs with (h | ⟨o, h⟩) | ⟨o, its, n, h, c, _⟩
      · exact .base (.tup h)
      · exact .fTuple h
      · exact .kTuple h c
  | .dict _, h => by cases h
def sp_l_alike (n : Nat) (K : PySem.W.Frag) : Sp := fun vs H Q _ => ∃ (x y : V) (d : PyData), vs = [x, y] ∧ Dp K H x d ∧ Dp K H y d ∧ okD n d ∧ ∀ H' : Hp, Same H H' → Q (.bl true) H'
theorem sc_l_alike : FnScope ["_law_found", "_law_due", "_law_k"] ["_law_found", "_law_due"] (defScope s_l_alike) := ⟨rfl, rfl, rfl, by decide +kernel, rfl, by decide +kernel, by decide +kernel⟩
/-- length and items of a list or tuple that is read -/
theorem dp_seq {K : PySem.W.Frag} {H : Hp} {x : V} {ds : List PyData} (h : Dp K H x (.list ds) ∨ Dp K H x (.tuple ds)) : ∃ a xs, x = .ref a ∧ (SqL K H a xs ∨ SqT K H a xs) ∧ DpAll K H xs ds := by
  rcases h with h | h
  · obtain ⟨a, xs, e, h1, h2⟩ := dp_list h
    exact ⟨a, xs, e, .inl h1, h2⟩
  · obtain ⟨a, xs, e, h1, h2⟩ := dp_tuple h
    exact ⟨a, xs, e, .inr h1, h2⟩
theorem lenv_seq {K : PySem.W.Frag} {H : Hp} {a : Addr} {xs : List V} {n : Nat} (h : SqL K H a xs ∨ SqT K H a xs) (e : n = xs.length) : LenV K (.ref a) H n := by
  rcases h with h | h
  · exact .inl ⟨xs, h, e⟩
  · exact .inr ⟨xs, h, e⟩
theorem rix_seq {K : PySem.W.Frag} {H : Hp} {a : Addr} {xs : List V} {i : Int} {v : V} {Q : VK} (h : SqL K H a xs ∨ SqT K H a xs) (e : atI xs i = some v) (q : Q v H) : rIx K (.ref a) (.int i) H Q := by
  rcases h with h | h
  · exact .inl ⟨a, xs, i, v, rfl, rfl, h, e, q⟩
  · exact .inr (.inl ⟨a, xs, i, v, rfl, rfl, h, e, q⟩)
section
variable {P : Program} {w : World} {K : PySem.W.Frag} {mg : Str → Option Value} {base : Heap}
theorem kit_not {a b : String} {r : Bool} (h : kitB a b = some r) : PySem.W.kitOne K (.type a) (.type b) = some r := kit_ty h
set_option maxHeartbeats 16000000 in
theorem ok_l_alike {f : Addr} {fd : FuncData} (F : Fun K "_law_alike" "_law_alike" s_l_alike f fd) (bA : Binds K fd ["_law_found", "_law_due"] []) (gA : mg "_law_alike" = some (.ref f)) (mi : mg "isinstance" = none) (mt : mg "tuple" = none) (ml : mg "list" = none) (mb : mg "bool" = none) (ms : mg "str" = none) (mn : mg "int" = none)
    (me : mg "len" = none) (mr : mg "range" = none) : ∀ n : Nat, FnOk P w K mg base CX0 (n + 1) f fd ["_law_found", "_law_due"] (sp_l_alike n K)
  | 0 => by
    refine F.ok sc_l_alike (fun vs H Q E h => ?_) (fun cdv A outer s H vs Q E hr h => ?_)
    · obtain ⟨x, y, d, rfl, _⟩ := h
      rfl
    · obtain ⟨x, y, d, _, _, _, h, _⟩ := h
      unfold okD at h
      exact h.elim
  | n + 1 => by
    have G := ok_l_alike F bA gA mi mt ml mb ms mn me mr n
    refine F.ok sc_l_alike (fun vs H Q E h => ?_) (fun cdv A outer s H vs Q E hr h => ?_)
    · obtain ⟨x, y, d, rfl, _⟩ := h
      rfl
    · obtain ⟨x, y, d, rfl, hx, hy, hok, q⟩ := h
      have nd := sc_l_alike.nd
      refine ⟨_, pss_cons (ps_if (PW.pt (pw_or (pt_val (pe_callB call_isi (by rfl) mi (by decide +kernel) (pa_cons (pv 1) (pa_cons (pe_bltn (v := .ty "tuple") rfl mt (by decide +kernel) rfl) pa_nil))))
          (pw_or1 (pt_val (pe_callB call_isi (by rfl) mi (by decide +kernel) (pa_cons (pv 1) (pa_cons (pe_bltn (v := .ty "list") rfl ml (by decide +kernel) rfl) pa_nil)))))))
          (pss_cons (ps_if (PW.pt (pw_or (pt_cmpR op_ne (pe_callB call_isi (by rfl) mi (by decide +kernel) (pa_cons (pv 0) (pa_cons (pe_bltn (v := .ty "tuple") rfl mt (by decide +kernel) rfl) pa_nil))) (pe_callB call_isi (by rfl) mi (by decide +kernel) (pa_cons (pv 1) (pa_cons (pe_bltn (v := .ty "tuple") rfl mt (by decide +kernel) rfl) pa_nil))) (nomark _))
            (pw_or1 (pt_not (pt_val (pe_callB call_isiT (by rfl) mi (by decide +kernel) (pa_cons (pv 0) (pa_cons (pe_tup (pa_cons (pe_bltn (v := .ty "tuple") rfl mt (by decide +kernel) rfl) (pa_cons (pe_bltn (v := .ty "list") rfl ml (by decide +kernel) rfl) pa_nil))) pa_nil))))))))
            (pss_one ps_never) pss_nil)
          (pss_cons (ps_if (pt_cmpR op_ne (pe_callB call_len (by rfl) me PySem.boot_len (pa_cons (pv 0) pa_nil)) (pe_callB call_len (by rfl) me PySem.boot_len (pa_cons (pv 1) pa_nil)) (nomark _)) (pss_one ps_never) pss_nil)
          (pss_one (ps_ret (pe_cmpR (op_eqD hr.units) (pe_lc (own := [("_law_k", 2)]) (g := gName 2) rfl nd (pi_range1 rfl mr (pa_cons (pe_callB call_len (by rfl) me PySem.boot_len (pa_cons (pv 1) pa_nil)) pa_nil)) (blkOk_by (own := [("_law_k", 2)]) (N := ["_law_found", "_law_due", "_law_k"]) (sc := defScope s_l_alike) (by decide +kernel))
            (fun _ _ _ _ _ => pg_name (i := 2) nd rfl (Or.inl rfl))
            (fun _ _ _ _ _ => pts_one (pt_not (pt_val (pe_call G hr rfl gA F.kp bA .nil pass0 (pa_cons (pe_ix (r := rIx K) ix_seq (pv 0) (pv 2) (fun _ _ => rfl)) (pa_cons (pe_ix (r := rIx K) ix_seq (pv 1) (pv 2) (fun _ _ => rfl)) pa_nil))))))
            (fun _ _ _ _ _ => pv 2)) (pe_lst pa_nil) (nomark _)))))) pss_nil)
        (pss_cons (ps_if (PW.pt (pw_or (pt_cmpR op_isN (pv 1) pe_non (nomark _)) (pw_or1 (pt_cmpR op_isN (pv 0) pe_non (nomark _))))) (pss_one (ps_ret (pe_and (pe_cmpR op_isN (pv 1) pe_non (nomark _)) (pe_one (pe_cmpR op_isN (pv 0) pe_non (nomark _)))))) pss_nil)
        (pss_cons (ps_if (PW.pt (pw_or (pt_val (pe_callB call_isi (by rfl) mi (by decide +kernel) (pa_cons (pv 1) (pa_cons (pe_bltn (v := .ty "bool") rfl mb (by decide +kernel) rfl) pa_nil)))) (pw_or1 (pt_val (pe_callB call_isi (by rfl) mi (by decide +kernel) (pa_cons (pv 0) (pa_cons (pe_bltn (v := .ty "bool") rfl mb (by decide +kernel) rfl) pa_nil)))))))
          (pss_one (ps_ret (pe_and (pe_callB call_isi (by rfl) mi (by decide +kernel) (pa_cons (pv 1) (pa_cons (pe_bltn (v := .ty "bool") rfl mb (by decide +kernel) rfl) pa_nil))) (pe_and (pe_callB call_isi (by rfl) mi (by decide +kernel) (pa_cons (pv 0) (pa_cons (pe_bltn (v := .ty "bool") rfl mb (by decide +kernel) rfl) pa_nil))) (pe_one (pe_cmpR op_eq (pv 0) (pv 1) (nomark _))))))) pss_nil)
        (pss_cons (ps_if (pt_val (pe_callB call_isi (by rfl) mi (by decide +kernel) (pa_cons (pv 1) (pa_cons (pe_bltn (v := .ty "str") rfl ms (by decide +kernel) rfl) pa_nil))))
          (pss_one (ps_ret (pe_and (pe_callB call_isi (by rfl) mi (by decide +kernel) (pa_cons (pv 0) (pa_cons (pe_bltn (v := .ty "str") rfl ms (by decide +kernel) rfl) pa_nil))) (pe_one (pe_cmpR op_eq (pv 0) (pv 1) (nomark _)))))) pss_nil)
        (pss_one (ps_ret (pe_and (pe_callB call_isi (by rfl) mi (by decide +kernel) (pa_cons (pv 0) (pa_cons (pe_bltn (v := .ty "int") rfl mn (by decide +kernel) rfl) pa_nil))) (pe_one (pe_cmpR op_eq (pv 0) (pv 1) (nomark _))))))))), ?_⟩
      have cls : (∃ (ds : List PyData) (tn : String) (bt : Bool), (∀ H', Same H H' → TyX K H' x (.type tn)) ∧ (∀ H', Same H H' → TyX K H' y (.type tn)) ∧ kitB tn "tuple" = some bt ∧ kitB tn "list" = some (!bt) ∧ (Dp K H x (.list ds) ∨ Dp K H x (.tuple ds)) ∧ (Dp K H y (.list ds) ∨ Dp K H y (.tuple ds)) ∧ ds.length ≤ 1000000 ∧ ∀ e ∈ ds, okD n e) ∨
          (TyX K H x (.type (tyN d)) ∧ TyX K H y (.type (tyN d)) ∧ x = y ∧ ((∃ i, d = .int i ∧ x = .int i) ∨ (∃ i, d = .str i ∧ x = .str i) ∨ (∃ i, d = .bool i ∧ x = .bl i) ∨ (d = .none ∧ x = .non))) := by
        have tx := dp_ty hx
        have ty := dp_ty hy
        cases d with
        | none =>
          cases hx
          cases hy
          exact .inr ⟨tx, ty, rfl, .inr (.inr (.inr ⟨rfl, rfl⟩))⟩
        | bool b =>
          cases hx
          cases hy
          exact .inr ⟨tx, ty, rfl, .inr (.inr (.inl ⟨b, rfl, rfl⟩))⟩
        | int i =>
          cases hx
          cases hy
          exact .inr ⟨tx, ty, rfl, .inl ⟨i, rfl, rfl⟩⟩
        | str i =>
          cases hx
          cases hy
          exact .inr ⟨tx, ty, rfl, .inr (.inl ⟨i, rfl, rfl⟩)⟩
        | list ds =>
          unfold okD at hok
          exact .inl ⟨ds, "list", false, fun H' s => dp_ty (dp_same s hx), fun H' s => dp_ty (dp_same s hy), by decide +kernel, by decide +kernel, .inl hx, .inl hy, hok.1, hok.2⟩
        | tuple ds =>
          unfold okD at hok
          exact .inl ⟨ds, "tuple", true, fun H' s => dp_ty (dp_same s hx), fun H' s => dp_ty (dp_same s hy), by decide +kernel, by decide +kernel, .inr hx, .inr hy, hok.1, hok.2⟩
        | dict kvs => cases hx
      rcases cls with ⟨ds, tn, bt, tx, ty, kt, kl, hx', hy', hlen, hall⟩ | ⟨tx, ty, rfl, hsc⟩
      · obtain ⟨a, xs, rfl, hxs, hxa⟩ := dp_seq hx'
        obtain ⟨b, ys, rfl, hys, hya⟩ := dp_seq hy'
        have exl : xs.length = ds.length := dpa_len hxa
        have eyl : ys.length = ds.length := dpa_len hya
        have kA : PySem.W.kitAny K (.type tn) [.type "tuple", .type "list"] = some true := by
          cases bt with
          | true => exact kitAny_cons (kit_ty kt) (fun z => by cases z) (fun _ => rfl)
          | false => exact kitAny_cons (kit_ty kt) (fun _ => kitAny_cons (kit_ty kl) (fun z => by cases z) (fun _ => rfl)) (fun z => by cases z)
        have ty0 := ty H (Same.refl H)
        have tx0 := tx H (Same.refl H)
        refine ⟨_, rfl, .ref b, .ty "tuple", _, _, bt, rfl, ClsV.ty _, ty0, kit_ty kt, _, rfl, ?_⟩
        have step : ∀ {A B D : Prop}, (bt = false → (if true = true then A else B) → D) → A → (if bt = true then (if true = true then A else B) else D) := fun h1 h2 => by
          cases bt with
          | true => exact iteT (iteT h2)
          | false => exact iteF (h1 rfl (iteT h2))
        refine step (fun _ hh => ⟨_, rfl, .ref b, .ty "list", _, _, true, rfl, ClsV.ty _, ty0, kit_ty (by rw [kl]; cases bt <;> first | rfl | contradiction), _, rfl, hh⟩) ?_
        refine ⟨_, rfl, .ref a, .ty "tuple", _, _, bt, rfl, ClsV.ty _, tx0, kit_ty kt, _, rfl, .ref b, .ty "tuple", _, _, bt, rfl, ClsV.ty _, ty0, kit_ty kt, rfl, _, rfl, ifnd_t rfl ?_⟩
        refine ⟨_, rfl, (by show 2 ≤ sizeLine; decide), fun tp htp => ?_⟩
        have s1 : Same H (upd H tp (.tup [.ty "tuple", .ty "list"])) := same_new htp
        refine ⟨.ref a, tp, _, _, _, true, rfl, upd_same, .cons (ClsV.ty _) (.cons (ClsV.ty _) .nil), tx _ s1, kA, _, rfl, iteF ?_⟩
        have m1 : ∀ {H' : Hp}, Same H H' → (SqL K H' a xs ∨ SqT K H' a xs) := fun s => hxs.elim (fun h => .inl (s.seq h)) (fun h => .inr (same_sqt s h))
        have m2 : ∀ {H' : Hp}, Same H H' → (SqL K H' b ys ∨ SqT K H' b ys) := fun s => hys.elim (fun h => .inl (s.seq h)) (fun h => .inr (same_sqt s h))
        refine ⟨_, rfl, _, ds.length, rfl, lenv_seq (m1 s1) exl.symm, _, rfl, _, ds.length, rfl, lenv_seq (m2 s1) eyl.symm, rfl, _, rfl, ifnd_t rfl ?_⟩
        refine ⟨_, rfl, _, ds.length, rfl, lenv_seq (m2 s1) eyl.symm, _, rfl, by omega, by omega, fun D hD => ?_⟩
        have s2 : Same H (upd (upd H tp (.tup [.ty "tuple", .ty "list"])) D (.lst [])) := s1.trans (same_new hD)
        refine lc_range (lo := 0) (n := ds.length) (fun i H' => Same H H' ∧ H' D = some (.lst [])) ⟨s2, upd_same⟩ ?_ ?_
        · rintro i H' hi ⟨s3, eD⟩
          obtain ⟨e, he⟩ : ∃ e, ds[i]? = some e := ⟨_, List.getElem?_eq_getElem hi⟩
          obtain ⟨u, hu, hud⟩ := dpa_get hxa he
          obtain ⟨v, hv, hvd⟩ := dpa_get hya he
          refine ⟨rfl, _, rfl, _, rfl, rix_seq (m1 s3) (at_of (j := i) (by omega) hu) ?_⟩
          refine ⟨_, rfl, _, rfl, rix_seq (m2 s3) (at_of (j := i) (by omega) hv) ?_⟩
          refine ⟨u, v, e, rfl, dp_same s3 hud, dp_same s3 hvd, hall e (List.mem_of_getElem? he), fun H4 s4 => ⟨_, rfl, iteF ⟨s3.trans s4, s4 _ _ eD⟩⟩⟩
        · rintro H' ⟨s3, eD⟩
          refine ⟨Nat.zero_le _, fun z hz => ?_⟩
          have s4 := same_new (o := .lst []) hz
          exact ⟨.list [], .list [], .lst (SqL.of (s4 _ _ eD)) .nil, .lst (SqL.of upd_same) .nil, rfl, rfl, q _ (s3.trans s4)⟩
      · have step0 : ∀ {A : Prop}, A → A := fun h => h
        rcases hsc with ⟨i, rfl, rfl⟩ | ⟨i, rfl, rfl⟩ | ⟨i, rfl, rfl⟩ | ⟨rfl, rfl⟩
        · have tx : TyX K H _ (.type "int") := tx
          have ty : TyX K H _ (.type "int") := ty
          refine ⟨_, rfl, _, .ty "tuple", _, _, false, rfl, ClsV.ty _, ty, kit_ty (by decide +kernel), _, rfl, iteF ⟨_, rfl, _, .ty "list", _, _, false, rfl, ClsV.ty _, ty, kit_ty (by decide +kernel), _, rfl, iteF ?_⟩⟩
          refine ⟨_, rfl, rfl, _, rfl, ifd_f (by intro z; cases z) ⟨_, rfl, rfl, _, rfl, ifd_f (by intro z; cases z) ?_⟩⟩
          refine ⟨_, rfl, _, .ty "bool", _, _, false, rfl, ClsV.ty _, ty, kit_ty (by decide +kernel), _, rfl, iteF ⟨_, rfl, _, .ty "bool", _, _, false, rfl, ClsV.ty _, tx, kit_ty (by decide +kernel), _, rfl, iteF ?_⟩⟩
          refine ⟨_, rfl, _, .ty "str", _, _, false, rfl, ClsV.ty _, ty, kit_ty (by decide +kernel), _, rfl, iteF ?_⟩
          refine ⟨_, rfl, _, .ty "int", _, _, true, rfl, ClsV.ty _, tx, kit_ty (by decide +kernel), _, rfl, iteT ⟨_, rfl, _, rfl, rfl, ?_⟩⟩
          rw [decide_eq_true rfl]
          exact q _ (Same.refl _)
        · have tx : TyX K H _ (.type "str") := tx
          have ty : TyX K H _ (.type "str") := ty
          refine ⟨_, rfl, _, .ty "tuple", _, _, false, rfl, ClsV.ty _, ty, kit_ty (by decide +kernel), _, rfl, iteF ⟨_, rfl, _, .ty "list", _, _, false, rfl, ClsV.ty _, ty, kit_ty (by decide +kernel), _, rfl, iteF ?_⟩⟩
          refine ⟨_, rfl, rfl, _, rfl, ifd_f (by intro z; cases z) ⟨_, rfl, rfl, _, rfl, ifd_f (by intro z; cases z) ?_⟩⟩
          refine ⟨_, rfl, _, .ty "bool", _, _, false, rfl, ClsV.ty _, ty, kit_ty (by decide +kernel), _, rfl, iteF ⟨_, rfl, _, .ty "bool", _, _, false, rfl, ClsV.ty _, tx, kit_ty (by decide +kernel), _, rfl, iteF ?_⟩⟩
          refine ⟨_, rfl, _, .ty "str", _, _, true, rfl, ClsV.ty _, ty, kit_ty (by decide +kernel), _, rfl, iteT ?_⟩
          refine ⟨_, rfl, _, .ty "str", _, _, true, rfl, ClsV.ty _, tx, kit_ty (by decide +kernel), _, rfl, iteT ⟨_, rfl, _, rfl, rfl, ?_⟩⟩
          rw [decide_eq_true rfl]
          exact q _ (Same.refl _)
        · have tx : TyX K H _ (.type "bool") := tx
          have ty : TyX K H _ (.type "bool") := ty
          refine ⟨_, rfl, _, .ty "tuple", _, _, false, rfl, ClsV.ty _, ty, kit_ty (by decide +kernel), _, rfl, iteF ⟨_, rfl, _, .ty "list", _, _, false, rfl, ClsV.ty _, ty, kit_ty (by decide +kernel), _, rfl, iteF ?_⟩⟩
          refine ⟨_, rfl, rfl, _, rfl, ifd_f (by intro z; cases z) ⟨_, rfl, rfl, _, rfl, ifd_f (by intro z; cases z) ?_⟩⟩
          refine ⟨_, rfl, _, .ty "bool", _, _, true, rfl, ClsV.ty _, ty, kit_ty (by decide +kernel), _, rfl, iteT (iteT ?_)⟩
          refine ⟨_, rfl, _, .ty "bool", _, _, true, rfl, ClsV.ty _, ty, kit_ty (by decide +kernel), _, rfl, iteT ⟨_, rfl, _, .ty "bool", _, _, true, rfl, ClsV.ty _, tx, kit_ty (by decide +kernel), _, rfl, iteT ⟨_, rfl, _, rfl, rfl, ?_⟩⟩⟩
          rw [decide_eq_true rfl]
          exact q _ (Same.refl _)
        · have tx : TyX K H _ (.type "NoneType") := tx
          have ty : TyX K H _ (.type "NoneType") := ty
          refine ⟨_, rfl, _, .ty "tuple", _, _, false, rfl, ClsV.ty _, ty, kit_ty (by decide +kernel), _, rfl, iteF ⟨_, rfl, _, .ty "list", _, _, false, rfl, ClsV.ty _, ty, kit_ty (by decide +kernel), _, rfl, iteF ?_⟩⟩
          refine ⟨_, rfl, rfl, _, rfl, ifd_t rfl (iteT ?_)⟩
          refine ⟨_, rfl, rfl, _, rfl, ifd_t rfl ⟨_, rfl, rfl, ?_⟩⟩
          exact q _ (Same.refl _)
end
end Ag

namespace Ag
open PySem PySem.Spec PyProof.Rows L2
/-! ### the law -/
abbrev s_law : Stmt := top 25
def sp_law (K : PySem.W.Frag) : Sp := fun vs H Q _ => ∃ (a : Addr) (ns : List Int), vs = [.ref a] ∧ ScrAt K H a ns ∧ ∀ H', Q (.bl true) H'
theorem sc_law : FnScope ["_law_script", "_law_row", "_law_some", "_law_k", "_law_disk_here", "_law_asks_here", "_law_text_here", "_law_found"] ["_law_script"] (defScope s_law) := ⟨rfl, rfl, rfl, by decide +kernel, rfl, by decide +kernel, by decide +kernel⟩
theorem okD_asks (m : Nat) {l : List Ask} (h : l.length ≤ 1000) : okD (m + 3) (dAsks l) := by
  refine okD_list (by rw [List.length_map]; omega) fun d hd => ?_
  obtain ⟨r, _, rfl⟩ := List.mem_map.mp hd
  exact okD_tuple (by show 3 ≤ 1000000; decide) (okD_ints _ _)
theorem sqt_but {K : PySem.W.Frag} {H H' : Hp} {S a : Addr} {ys xs : List V} (e : H S = some (.lst ys)) (s : SameBut S H H') (h : SqT K H a xs) : SqT K H' a xs := by
  rcases h with (h | ⟨o, h⟩) | h
  · exact .inl (.inl (s _ _ (ne_of h e (by intro z; cases z)) h))
  · exact .inl (.inr ⟨o, s _ _ (ne_of h e (by intro z; cases z)) h⟩)
  · exact .inr h
theorem dpa_asks_but {K : PySem.W.Frag} {H H' : Hp} {S : Addr} {ys : List V} (e : H S = some (.lst ys)) (s : SameBut S H H') : ∀ {l : List Ask} {xs : List V}, DpAll K H xs (l.map dAsk) → DpAll K H' xs (l.map dAsk)
  | [], _, h => by cases h; exact .nil
  | q :: l, _, h => by
    cases h with
    | cons h1 h2 =>
      obtain ⟨p, rfl, ht⟩ := dp_tints h1
      exact .cons (dp_tints_of (sqt_but e s ht)) (dpa_asks_but e s h2)
/-- a disk and its asks, drawn -/
def ItemAt (K : PySem.W.Frag) (G : Hp) (x : V) : Prop := ∃ (t : Addr) (v u : V) (d : Disk) (l : List Ask), x = .ref t ∧ G t = some (.tup [v, u]) ∧ Dp K G v (dDisk d) ∧ Dp K G u (dAsks l) ∧ GoodDisk d ∧ GoodAsks d l
theorem itemAt_same {K : PySem.W.Frag} {G G' : Hp} {x : V} (s : Same G G') : ItemAt K G x → ItemAt K G' x
  | ⟨t, v, u, d, l, h0, h1, h2, h3, h4, h5⟩ => ⟨t, v, u, d, l, h0, s _ _ h1, dp_same s h2, dp_same s h3, h4, h5⟩
section
variable {P : Program} {w : World} {K : PySem.W.Frag} {mg : Str → Option Value} {base : Heap}
set_option maxHeartbeats 16000000 in
theorem ok_law {f fD fA fW fR fX fL : Addr} {fd fdD fdA fdW fdR fdX fdL : FuncData} (F : Fun K "law" "law" s_law f fd)
    (G__law_disk : FnOk P w K mg base CX0 2 fD fdD ["_law_row"] (sp_l_disk K)) (C__law_disk : Cal K mg "_law_disk" fD fdD ["_law_row"])
    (G__law_asks : FnOk P w K mg base CX0 2 fA fdA ["_law_row", "_law_disk_here", "_law_most"] (sp_l_asks K)) (C__law_asks : Cal K mg "_law_asks" fA fdA ["_law_row", "_law_disk_here", "_law_most"])
    (G_written : FnOk P w K mg base CX0 2 fW fdW ["disk", "asks"] (sp_written K)) (C_written : Cal K mg "written" fW fdW ["disk", "asks"])
    (G_read : FnOk P w K mg base CX0 2 fR fdR ["disk", "text"] (sp_read K)) (C_read : Cal K mg "read" fR fdR ["disk", "text"])
    (G__law_text : FnOk P w K mg base CX0 1 fX fdX ["_law_asks_here"] (sp_l_text K)) (C__law_text : Cal K mg "_law_text" fX fdX ["_law_asks_here"])
    (G__law_alike : FnOk P w K mg base CX0 5 fL fdL ["_law_found", "_law_due"] (sp_l_alike 4 K)) (C__law_alike : Cal K mg "_law_alike" fL fdL ["_law_found", "_law_due"])
    (mb_range : mg "range" = none) : FnOk P w K mg base CX0 6 f fd ["_law_script"] (sp_law K) := by
  refine F.ok sc_law (fun vs H Q E h => ?_) (fun cdv A outer s H vs Q E hr h => ?_)
  · obtain ⟨a, ns, rfl, _⟩ := h
    rfl
  · obtain ⟨a, ns, rfl, hS, q⟩ := h
    have nd := sc_law.nd
    have hr__law_disk : Room 2 _ := hr.mono (by decide)
    have hr__law_asks : Room 2 _ := hr.mono (by decide)
    have hr_written : Room 2 _ := hr.mono (by decide)
    have hr_read : Room 2 _ := hr.mono (by decide)
    have hr__law_text : Room 1 _ := hr.mono (by decide)
    have hr__law_alike : Room 5 _ := hr.mono (by decide)
    refine ⟨_, (pss_cons (ps_set (i := 1) nd rfl (.inl rfl) (pe_lst (pa_cons (pv 0) (pa_cons pe_int (pa_cons pe_int pa_nil)))))
      (pss_cons (ps_set (i := 2) nd rfl (.inl rfl) (pe_lst pa_nil))
      (pss_cons (ps_for PassesOwn.never rfl (pi_range1 rfl mb_range (pa_cons pe_int pa_nil)) (pg_name (i := 3) nd rfl (.inl rfl))
        (pss_cons (ps_set (i := 4) nd rfl (.inl rfl) (pe_call G__law_disk hr__law_disk rfl C__law_disk.m C__law_disk.k C__law_disk.b .nil pass0 (pa_cons (pv 1) pa_nil)))
      (pss_one (ps_expr (pe_bm PySem.F.plainAttrs_list PySem.F.slot_list_append PySem.F.type_list_append mt_append (pv 2) (pa_cons (pe_tup (pa_cons (pv 4) (pa_cons (pe_call G__law_asks hr__law_asks rfl C__law_asks.m C__law_asks.k C__law_asks.b .nil pass0 (pa_cons (pv 1) (pa_cons (pv 4) (pa_cons pe_int pa_nil)))) pa_nil))) pa_nil))))))
      (pss_cons (ps_for PassesOwn.never rfl (pi_list (pe_op op_cat (pv 2) (pe_slice (r := rSlL K) sl_list (pv 2) po_none (po_some pe_int)))) (pg_tup rfl (pgs_cons (pg_name (i := 4) nd rfl (.inl rfl)) (pgs_cons (pg_name (i := 5) nd rfl (.inl rfl)) pgs_nil)))
        (pss_cons (ps_set (i := 6) nd rfl (.inl rfl) (pe_call G__law_text hr__law_text rfl C__law_text.m C__law_text.k C__law_text.b .nil pass0 (pa_cons (pv 5) pa_nil)))
      (pss_cons (ps_set (i := 7) nd rfl (.inl rfl) (pe_call G_read hr_read rfl C_read.m C_read.k C_read.b .nil pass0 (pa_cons (pv 4) (pa_cons (pv 6) pa_nil))))
      (pss_cons (ps_if (PW.pt (pw_or (pt_not (pt_val (pe_call G__law_alike hr__law_alike rfl C__law_alike.m C__law_alike.k C__law_alike.b .nil pass0 (pa_cons (pe_call G_written hr_written rfl C_written.m C_written.k C_written.b .nil pass0 (pa_cons (pv 4) (pa_cons (pv 5) pa_nil))) (pa_cons (pv 6) pa_nil))))) (pw_or1 (pt_not (pt_val (pe_call G__law_alike hr__law_alike rfl C__law_alike.m C__law_alike.k C__law_alike.b .nil pass0 (pa_cons (pv 7) (pa_cons (pv 5) pa_nil)))))))) (pss_one (ps_ret pe_bl)) pss_nil)
      (pss_one (ps_expr (pe_bm PySem.F.plainAttrs_list PySem.F.slot_list_append PySem.F.type_list_append mt_append (pv 7) (pa_cons (pe_tup (pa_cons pe_int (pa_cons pe_int (pa_cons pe_int pa_nil)))) pa_nil))))))))
      (pss_one (ps_ret pe_bl)))))), ?_⟩
    refine ⟨_, rfl, (by show 3 ≤ sizeLine; decide), fun r hr0 => ?_⟩
    have hR0 := row_start hS hr0
    refine ⟨Nat.zero_le _, fun S hS0 => ?_⟩
    have nS : S ≠ r := hR0.ne hS0
    refine ⟨3, rfl, by decide, by decide, ?_⟩
    refine for_range (lo := 0) (n := 3) (fun i σ H' => RowAt K H' r ∧ ∃ (ps : List V) (v3 v4 v5 v6 v7 : Option V), σ = [some (.ref a), some (.ref r), some (.ref S), v3, v4, v5, v6, v7] ∧
        H' S = some (.lst ps) ∧ ps.length = i ∧ ∀ x ∈ ps, ItemAt K (wo (wo H' r) S) x) ⟨hR0.but (same_new hS0), [], none, none, none, none, none, rfl, upd_same, rfl, fun x hx => absurd hx (by simp)⟩ ?_ ?_
    · rintro i σ H0 hi ⟨hR, ps, v3, v4, v5, v6, v7, rfl, eS, hpl, hps⟩
      refine ⟨_, rfl, r, rfl, hR, fun H1 pd d g hR1 sb1 npd ed => ?_⟩
      have eS1 := sb1 _ _ nS eS
      have dpd1 : Dp K (wo H1 r) (.ref pd) (dDisk d) := dp_tints_of (.inl (.inl (by rw [wo_ne npd]; exact ed)))
      refine ⟨_, rfl, .inl ⟨rfl, _, SqL.of eS1⟩, ?_⟩
      refine ⟨_, rfl, _, rfl, _, rfl, r, .ref pd, d, 40, rfl, hR1, dpd1, g, by decide, by decide, fun H3 pa l xs ga hl hR3 sb3 npa hpa0 epa hda => ?_⟩
      refine ⟨(by show 2 ≤ sizeLine; decide), fun t ht => ?_⟩
      have eS3 := sb3 _ _ nS eS1
      have nSt : S ≠ t := ne_of_none eS3 ht
      have ntr : t ≠ r := hR3.ne ht
      have nSpa : S ≠ pa := ne_of_none eS1 hpa0
      have nSpd : S ≠ pd := ne_of eS1 ed (by intro z; cases z)
      have ed3 := sb3 _ _ npd ed
      have npdt : pd ≠ t := ne_of_none ed3 ht
      have npat : pa ≠ t := ne_of_none epa ht
      have sba := sb_trans sb1 sb3
      refine ⟨S, ps, .ref t, rfl, rfl, by rw [upd_ne nSt]; exact eS3, small1000 (by omega), ?_⟩
      refine ⟨(hR3.but (same_new ht)).put nS (by rw [upd_ne nSt]; exact eS3), ps ++ [.ref t], _, _, _, _, _, rfl, upd_same, by rw [List.length_append, hpl]; rfl, fun x hx => ?_⟩
      rcases List.mem_append.mp hx with hx | hx
      · refine itemAt_same (wo2_step fun b o n1 n2 e => ?_) (hps x hx)
        rw [upd_ne n2, upd_ne (ne_of_none (sba b o n1 e) ht)]
        exact sba b o n1 e
      · rw [List.mem_singleton.mp hx]
        refine ⟨t, .ref pd, .ref pa, d, l, rfl, ?_, ?_, ?_, g, ga⟩
        · rw [wo_ne nSt.symm, wo_ne ntr, upd_ne nSt.symm, upd_same]
        · exact dp_tints_of (.inl (.inl (by rw [wo_ne nSpd.symm, wo_ne npd, upd_ne nSpd.symm, upd_ne npdt]; exact ed3)))
        · refine .lst (.inl (.inl (by rw [wo_ne nSpa.symm, wo_ne npa, upd_ne nSpa.symm, upd_ne npat]; exact epa))) ?_
          refine dpa_asks_but (S := S) (ys := ps) (by rw [wo_ne nS]; exact eS3) (fun b o n e => ?_) (dpa_same wo_sub hda)
          have nbr : b ≠ r := fun z => by rw [z, wo_at] at e; cases e
          rw [wo_ne nbr] at e
          rw [wo_ne n, wo_ne nbr, upd_ne n, upd_ne (ne_of_none e ht)]
          exact e
    · rintro σ H0 ⟨hR, ps, v3, v4, v5, v6, v7, rfl, eS, hpl, hps⟩
      obtain ⟨x1, x2, x3, rfl⟩ : ∃ x1 x2 x3, ps = [x1, x2, x3] := by
        match ps, hpl with
        | [x1, x2, x3], _ => exact ⟨_, _, _, rfl⟩
      have hps0 : ∀ x ∈ [x1, x2, x3], ItemAt K H0 x := fun x hx => itemAt_same (wo_sub.trans wo_sub) (hps x hx)
      refine ⟨_, rfl, _, rfl, _, rfl, S, [x1, x2, x3], rfl, SqL.of eS, fun c hc => ?_⟩
      have s1 := same_new (o := HO.lst [x1, x2]) hc
      rw [show cutV [x1, x2, x3] none (some 2) = [x1, x2] from rfl]
      refine ⟨S, c, [x1, x2, x3], [x1, x2], rfl, rfl, s1 _ _ eS, upd_same, (by show 3 + 2 ≤ sizeLine; decide), fun b hb => ?_⟩
      have s2 := same_new (o := HO.lst ([x1, x2, x3] ++ [x1, x2])) hb
      have s12 : Same H0 (upd (upd H0 c (.lst [x1, x2])) b (.lst ([x1, x2, x3] ++ [x1, x2]))) := s1.trans s2
      have hit : ∀ x ∈ [x1, x2, x3] ++ [x1, x2], ItemAt K (upd (upd H0 c (.lst [x1, x2])) b (.lst ([x1, x2, x3] ++ [x1, x2]))) x := fun x hx => itemAt_same s12 (hps0 x (by
        rcases List.mem_append.mp hx with h | h
        · exact h
        · simp only [List.mem_cons, List.not_mem_nil, or_false] at h ⊢
          rcases h with h | h
          · exact .inl h
          · exact .inr (.inl h)))
      have eb : upd (upd H0 c (.lst [x1, x2])) b (.lst ([x1, x2, x3] ++ [x1, x2])) b = some (.lst ([x1, x2, x3] ++ [x1, x2])) := upd_same
      refine ⟨b, rfl, ⟨_, SqL.of eb⟩, ?_⟩
      revert hit eb
      generalize upd (upd H0 c (.lst [x1, x2])) b (.lst ([x1, x2, x3] ++ [x1, x2])) = G
      generalize [x1, x2, x3] ++ [x1, x2] = items
      intro hit eb
      refine for_list (K := K) (a := b) (xs := items) (fun j σ H' => Same G H' ∧ ∃ v4 v5 v6 v7 : Option V, σ = [some (.ref a), some (.ref r), some (.ref S), v3, v4, v5, v6, v7]) ⟨Same.refl _, v4, v5, v6, v7, rfl⟩ (fun j σ H' _ ⟨s, _⟩ => SqL.of (s _ _ eb)) ?_ ?_
      · rintro j x σ H1 hj ⟨sG, v4, v5, v6, v7, rfl⟩
        obtain ⟨t, v, u, d, l, rfl, h1, h2, h3, gd, ga⟩ := itemAt_same sG (hit x (List.mem_of_getElem? hj))
        have few : ∀ q ∈ l, ∀ n ∈ askNs q, Few n := fun q hq => askNs_few gd (ga.all q hq)
        refine ⟨t, _, rfl, SqT.of h1, rfl, _, _, rfl, _, _, rfl, rfl, ?_⟩
        refine ⟨_, rfl, u, l, rfl, h3, ga.len, few, fun H2 s2 => ?_⟩
        have s02 := sG.trans s2
        refine ⟨_, rfl, _, rfl, v, d, l, rfl, dp_same s2 h2, gd, ga, fun H3 p xs s3 hp ep hxs => ?_⟩
        have s13 := s2.trans s3
        refine ⟨_, rfl, _, rfl, v, u, d, l, rfl, dp_same s13 h2, dp_same s13 h3, gd, ga, fun H4 s4 => ?_⟩
        refine ⟨_, rfl, _, _, .str (textS l), rfl, .str _, .str _, okD_str _ _, fun H5 s5 => ?_⟩
        have s35 := s4.trans s5
        refine ⟨_, rfl, iteF ?_⟩
        refine ⟨_, rfl, _, rfl, _, _, dAsks l, rfl, .lst (SqL.of (s35 _ _ ep)) (dpa_same s35 hxs), dp_same (s13.trans s35) h3, okD_asks 1 (by have := ga.len; omega), fun H6 s6 => ?_⟩
        refine ⟨_, rfl, iteF ?_⟩
        have s36 := s35.trans s6
        have ep6 := s36 _ _ ep
        refine ⟨_, rfl, .inl ⟨rfl, _, SqL.of ep6⟩, ?_⟩
        refine ⟨(by show 3 ≤ sizeLine; decide), fun z hz => ?_⟩
        have npz : p ≠ z := ne_of_none ep6 hz
        have hlx : xs.length = l.length := by rw [dpa_len hxs, List.length_map]
        have := ga.len
        refine ⟨p, xs, .ref z, rfl, rfl, by rw [upd_ne npz]; exact ep6, small1000 (by omega), ?_⟩
        refine ⟨same_upd (s02.trans (s3.trans (s36.trans (same_new hz)))) (s02.free hp), _, _, _, _, rfl⟩
      · rintro σ H1 ⟨sG, v4, v5, v6, v7, rfl⟩
        exact q _
end
end Ag

namespace Ag
open PySem PySem.Spec PyProof.Rows L2
/-! ### the end: what the top has written -/
set_option maxHeartbeats 16000000 in
theorem all_mk {l : PySem.W.OpenLaw} {w : World} {K : PySem.W.Frag} {h : Heap} {mg : Str → Option Value} {fa f_need_disk f_need_asks f_number_of f_written f_read f__law_taken f__law_alike f__law_disk f__law_asks f__law_text f_law : Addr} (X : K.In h) (G : h.Ns mainGlobals mg) (hfa : mg "law" = some (.ref fa))
    {od_need_disk an_need_disk od_need_asks an_need_asks od_number_of an_number_of od_written an_written od_read an_read od__law_taken an__law_taken od__law_alike an__law_alike od__law_disk an__law_disk od__law_asks an__law_asks od__law_text an__law_text od_law an_law : Option Addr} {sl_need_disk sl_need_asks sl_number_of sl_written sl_read sl__law_taken sl__law_alike sl__law_disk sl__law_asks sl__law_text sl_law : Array (Option Value)} {oc_need_disk kV_need_disk dc_need_disk pm_need_disk cd_need_disk ct_need_disk oc_need_asks kV_need_asks dc_need_asks pm_need_asks cd_need_asks ct_need_asks oc_number_of kV_number_of dc_number_of pm_number_of cd_number_of ct_number_of oc_written kV_written dc_written pm_written cd_written ct_written oc_read kV_read dc_read pm_read cd_read ct_read oc__law_taken kV__law_taken dc__law_taken pm__law_taken cd__law_taken ct__law_taken oc__law_alike kV__law_alike dc__law_alike pm__law_alike cd__law_alike ct__law_alike oc__law_disk kV__law_disk dc__law_disk pm__law_disk cd__law_disk ct__law_disk oc__law_asks kV__law_asks dc__law_asks pm__law_asks cd__law_asks ct__law_asks oc__law_text kV__law_text dc__law_text pm__law_text cd__law_text ct__law_text oc_law kV_law dc_law pm_law cd_law ct_law : Value} {t_FIGURES t_MOST_ASKS t_MOST_COME t_MOST_FIGURES t_MOST_PACE t_MOST_SECTORS t_MOST_TRACKS : Tok}
    (a_need_disk : PySem.W.nsIn K mainGlobals "need_disk" = some (some (.ref f_need_disk))) (l_need_disk : K.lookup f_need_disk = some ⟨oc_need_disk, od_need_disk, .func (PySem.W.fnOf "need_disk" "need_disk" (defArgs s_need_disk) (defBody s_need_disk) (defScope s_need_disk) .none kV_need_disk dc_need_disk pm_need_disk an_need_disk cd_need_disk ct_need_disk), sl_need_disk⟩) (c_need_disk : PySem.W.codeIn K cd_need_disk "need_disk" = true) (k_need_disk : PySem.W.keepIn K (.ref f_need_disk) = true)
    (a_need_asks : PySem.W.nsIn K mainGlobals "need_asks" = some (some (.ref f_need_asks))) (l_need_asks : K.lookup f_need_asks = some ⟨oc_need_asks, od_need_asks, .func (PySem.W.fnOf "need_asks" "need_asks" (defArgs s_need_asks) (defBody s_need_asks) (defScope s_need_asks) .none kV_need_asks dc_need_asks pm_need_asks an_need_asks cd_need_asks ct_need_asks), sl_need_asks⟩) (c_need_asks : PySem.W.codeIn K cd_need_asks "need_asks" = true) (k_need_asks : PySem.W.keepIn K (.ref f_need_asks) = true)
    (a_number_of : PySem.W.nsIn K mainGlobals "number_of" = some (some (.ref f_number_of))) (l_number_of : K.lookup f_number_of = some ⟨oc_number_of, od_number_of, .func (PySem.W.fnOf "number_of" "number_of" (defArgs s_number_of) (defBody s_number_of) (defScope s_number_of) .none kV_number_of dc_number_of pm_number_of an_number_of cd_number_of ct_number_of), sl_number_of⟩) (c_number_of : PySem.W.codeIn K cd_number_of "number_of" = true) (k_number_of : PySem.W.keepIn K (.ref f_number_of) = true)
    (a_written : PySem.W.nsIn K mainGlobals "written" = some (some (.ref f_written))) (l_written : K.lookup f_written = some ⟨oc_written, od_written, .func (PySem.W.fnOf "written" "written" (defArgs s_written) (defBody s_written) (defScope s_written) .none kV_written dc_written pm_written an_written cd_written ct_written), sl_written⟩) (c_written : PySem.W.codeIn K cd_written "written" = true) (k_written : PySem.W.keepIn K (.ref f_written) = true)
    (a_read : PySem.W.nsIn K mainGlobals "read" = some (some (.ref f_read))) (l_read : K.lookup f_read = some ⟨oc_read, od_read, .func (PySem.W.fnOf "read" "read" (defArgs s_read) (defBody s_read) (defScope s_read) .none kV_read dc_read pm_read an_read cd_read ct_read), sl_read⟩) (c_read : PySem.W.codeIn K cd_read "read" = true) (k_read : PySem.W.keepIn K (.ref f_read) = true)
    (a__law_taken : PySem.W.nsIn K mainGlobals "_law_taken" = some (some (.ref f__law_taken))) (l__law_taken : K.lookup f__law_taken = some ⟨oc__law_taken, od__law_taken, .func (PySem.W.fnOf "_law_taken" "_law_taken" (defArgs s_l_taken) (defBody s_l_taken) (defScope s_l_taken) .none kV__law_taken dc__law_taken pm__law_taken an__law_taken cd__law_taken ct__law_taken), sl__law_taken⟩) (c__law_taken : PySem.W.codeIn K cd__law_taken "_law_taken" = true) (k__law_taken : PySem.W.keepIn K (.ref f__law_taken) = true)
    (a__law_alike : PySem.W.nsIn K mainGlobals "_law_alike" = some (some (.ref f__law_alike))) (l__law_alike : K.lookup f__law_alike = some ⟨oc__law_alike, od__law_alike, .func (PySem.W.fnOf "_law_alike" "_law_alike" (defArgs s_l_alike) (defBody s_l_alike) (defScope s_l_alike) .none kV__law_alike dc__law_alike pm__law_alike an__law_alike cd__law_alike ct__law_alike), sl__law_alike⟩) (c__law_alike : PySem.W.codeIn K cd__law_alike "_law_alike" = true) (k__law_alike : PySem.W.keepIn K (.ref f__law_alike) = true)
    (a__law_disk : PySem.W.nsIn K mainGlobals "_law_disk" = some (some (.ref f__law_disk))) (l__law_disk : K.lookup f__law_disk = some ⟨oc__law_disk, od__law_disk, .func (PySem.W.fnOf "_law_disk" "_law_disk" (defArgs s_l_disk) (defBody s_l_disk) (defScope s_l_disk) .none kV__law_disk dc__law_disk pm__law_disk an__law_disk cd__law_disk ct__law_disk), sl__law_disk⟩) (c__law_disk : PySem.W.codeIn K cd__law_disk "_law_disk" = true) (k__law_disk : PySem.W.keepIn K (.ref f__law_disk) = true)
    (a__law_asks : PySem.W.nsIn K mainGlobals "_law_asks" = some (some (.ref f__law_asks))) (l__law_asks : K.lookup f__law_asks = some ⟨oc__law_asks, od__law_asks, .func (PySem.W.fnOf "_law_asks" "_law_asks" (defArgs s_l_asks) (defBody s_l_asks) (defScope s_l_asks) .none kV__law_asks dc__law_asks pm__law_asks an__law_asks cd__law_asks ct__law_asks), sl__law_asks⟩) (c__law_asks : PySem.W.codeIn K cd__law_asks "_law_asks" = true) (k__law_asks : PySem.W.keepIn K (.ref f__law_asks) = true)
    (a__law_text : PySem.W.nsIn K mainGlobals "_law_text" = some (some (.ref f__law_text))) (l__law_text : K.lookup f__law_text = some ⟨oc__law_text, od__law_text, .func (PySem.W.fnOf "_law_text" "_law_text" (defArgs s_l_text) (defBody s_l_text) (defScope s_l_text) .none kV__law_text dc__law_text pm__law_text an__law_text cd__law_text ct__law_text), sl__law_text⟩) (c__law_text : PySem.W.codeIn K cd__law_text "_law_text" = true) (k__law_text : PySem.W.keepIn K (.ref f__law_text) = true)
    (a_law : PySem.W.nsIn K mainGlobals "law" = some (some (.ref f_law))) (l_law : K.lookup f_law = some ⟨oc_law, od_law, .func (PySem.W.fnOf "law" "law" (defArgs s_law) (defBody s_law) (defScope s_law) .none kV_law dc_law pm_law an_law cd_law ct_law), sl_law⟩) (c_law : PySem.W.codeIn K cd_law "law" = true) (k_law : PySem.W.keepIn K (.ref f_law) = true)
    (y_bool : PySem.W.nsIn K mainGlobals "bool" = some none)
    (y_int : PySem.W.nsIn K mainGlobals "int" = some none)
    (y_isinstance : PySem.W.nsIn K mainGlobals "isinstance" = some none)
    (y_len : PySem.W.nsIn K mainGlobals "len" = some none)
    (y_list : PySem.W.nsIn K mainGlobals "list" = some none)
    (y_min : PySem.W.nsIn K mainGlobals "min" = some none)
    (y_range : PySem.W.nsIn K mainGlobals "range" = some none)
    (y_str : PySem.W.nsIn K mainGlobals "str" = some none)
    (y_tuple : PySem.W.nsIn K mainGlobals "tuple" = some none)
    (y_FIGURES : PySem.W.nsIn K mainGlobals "FIGURES" = some (some (.str "0123456789" t_FIGURES)))
    (y_MOST_ASKS : PySem.W.nsIn K mainGlobals "MOST_ASKS" = some (some (.int 40 t_MOST_ASKS)))
    (y_MOST_COME : PySem.W.nsIn K mainGlobals "MOST_COME" = some (some (.int 999 t_MOST_COME)))
    (y_MOST_FIGURES : PySem.W.nsIn K mainGlobals "MOST_FIGURES" = some (some (.int 3 t_MOST_FIGURES)))
    (y_MOST_PACE : PySem.W.nsIn K mainGlobals "MOST_PACE" = some (some (.int 4 t_MOST_PACE)))
    (y_MOST_SECTORS : PySem.W.nsIn K mainGlobals "MOST_SECTORS" = some (some (.int 16 t_MOST_SECTORS)))
    (y_MOST_TRACKS : PySem.W.nsIn K mainGlobals "MOST_TRACKS" = some (some (.int 64 t_MOST_TRACKS)))
    : ∃ fd : FuncData, (∀ (s : Shared) (v : Value), BindsTo s fd ⟨[v], []⟩ [("_law_script", v)]) ∧ ∀ base : Heap, K.In base → base.Ns mainGlobals mg → FnOk l.prog w K mg base CX0 6 fa fd ["_law_script"] (sp_law K) := by
  have e := hfa.symm.trans (PySem.W.mg_of X G a_law)
  cases e
  have z_bool := PySem.W.mg_none_of X G y_bool
  have z_int := PySem.W.mg_none_of X G y_int
  have z_isinstance := PySem.W.mg_none_of X G y_isinstance
  have z_len := PySem.W.mg_none_of X G y_len
  have z_list := PySem.W.mg_none_of X G y_list
  have z_min := PySem.W.mg_none_of X G y_min
  have z_range := PySem.W.mg_none_of X G y_range
  have z_str := PySem.W.mg_none_of X G y_str
  have z_tuple := PySem.W.mg_none_of X G y_tuple
  have c_FIGURES := PySem.W.mg_of X G y_FIGURES
  have c_MOST_ASKS := PySem.W.mg_of X G y_MOST_ASKS
  have c_MOST_COME := PySem.W.mg_of X G y_MOST_COME
  have c_MOST_FIGURES := PySem.W.mg_of X G y_MOST_FIGURES
  have c_MOST_PACE := PySem.W.mg_of X G y_MOST_PACE
  have c_MOST_SECTORS := PySem.W.mg_of X G y_MOST_SECTORS
  have c_MOST_TRACKS := PySem.W.mg_of X G y_MOST_TRACKS
  have F_need_disk := fun_mk (st := s_need_disk) l_need_disk c_need_disk k_need_disk
  have b_need_disk := F_need_disk.binds (ps := ["disk"]) fun _ _ _ _ _ _ us hl => match us, hl with | [_], _ => rfl
  have C_need_disk : Cal K mg "need_disk" f_need_disk _ ["disk"] := ⟨PySem.W.mg_of X G a_need_disk, k_need_disk, b_need_disk⟩
  have F_need_asks := fun_mk (st := s_need_asks) l_need_asks c_need_asks k_need_asks
  have b_need_asks := F_need_asks.binds (ps := ["disk", "asks"]) fun _ _ _ _ _ _ us hl => match us, hl with | [_, _], _ => rfl
  have C_need_asks : Cal K mg "need_asks" f_need_asks _ ["disk", "asks"] := ⟨PySem.W.mg_of X G a_need_asks, k_need_asks, b_need_asks⟩
  have F_number_of := fun_mk (st := s_number_of) l_number_of c_number_of k_number_of
  have b_number_of := F_number_of.binds (ps := ["word", "row"]) fun _ _ _ _ _ _ us hl => match us, hl with | [_, _], _ => rfl
  have C_number_of : Cal K mg "number_of" f_number_of _ ["word", "row"] := ⟨PySem.W.mg_of X G a_number_of, k_number_of, b_number_of⟩
  have F_written := fun_mk (st := s_written) l_written c_written k_written
  have b_written := F_written.binds (ps := ["disk", "asks"]) fun _ _ _ _ _ _ us hl => match us, hl with | [_, _], _ => rfl
  have C_written : Cal K mg "written" f_written _ ["disk", "asks"] := ⟨PySem.W.mg_of X G a_written, k_written, b_written⟩
  have F_read := fun_mk (st := s_read) l_read c_read k_read
  have b_read := F_read.binds (ps := ["disk", "text"]) fun _ _ _ _ _ _ us hl => match us, hl with | [_, _], _ => rfl
  have C_read : Cal K mg "read" f_read _ ["disk", "text"] := ⟨PySem.W.mg_of X G a_read, k_read, b_read⟩
  have F__law_taken := fun_mk (st := s_l_taken) l__law_taken c__law_taken k__law_taken
  have b__law_taken := F__law_taken.binds (ps := ["_law_row", "_law_many"]) fun _ _ _ _ _ _ us hl => match us, hl with | [_, _], _ => rfl
  have C__law_taken : Cal K mg "_law_taken" f__law_taken _ ["_law_row", "_law_many"] := ⟨PySem.W.mg_of X G a__law_taken, k__law_taken, b__law_taken⟩
  have F__law_alike := fun_mk (st := s_l_alike) l__law_alike c__law_alike k__law_alike
  have b__law_alike := F__law_alike.binds (ps := ["_law_found", "_law_due"]) fun _ _ _ _ _ _ us hl => match us, hl with | [_, _], _ => rfl
  have C__law_alike : Cal K mg "_law_alike" f__law_alike _ ["_law_found", "_law_due"] := ⟨PySem.W.mg_of X G a__law_alike, k__law_alike, b__law_alike⟩
  have F__law_disk := fun_mk (st := s_l_disk) l__law_disk c__law_disk k__law_disk
  have b__law_disk := F__law_disk.binds (ps := ["_law_row"]) fun _ _ _ _ _ _ us hl => match us, hl with | [_], _ => rfl
  have C__law_disk : Cal K mg "_law_disk" f__law_disk _ ["_law_row"] := ⟨PySem.W.mg_of X G a__law_disk, k__law_disk, b__law_disk⟩
  have F__law_asks := fun_mk (st := s_l_asks) l__law_asks c__law_asks k__law_asks
  have b__law_asks := F__law_asks.binds (ps := ["_law_row", "_law_disk_here", "_law_most"]) fun _ _ _ _ _ _ us hl => match us, hl with | [_, _, _], _ => rfl
  have C__law_asks : Cal K mg "_law_asks" f__law_asks _ ["_law_row", "_law_disk_here", "_law_most"] := ⟨PySem.W.mg_of X G a__law_asks, k__law_asks, b__law_asks⟩
  have F__law_text := fun_mk (st := s_l_text) l__law_text c__law_text k__law_text
  have b__law_text := F__law_text.binds (ps := ["_law_asks_here"]) fun _ _ _ _ _ _ us hl => match us, hl with | [_], _ => rfl
  have C__law_text : Cal K mg "_law_text" f__law_text _ ["_law_asks_here"] := ⟨PySem.W.mg_of X G a__law_text, k__law_text, b__law_text⟩
  have F_law := fun_mk (st := s_law) l_law c_law k_law
  refine ⟨PySem.W.fnOf "law" "law" (defArgs s_law) (defBody s_law) (defScope s_law) .none kV_law dc_law pm_law an_law cd_law ct_law, fun s v => .of_eq rfl, fun base _ _ => ?_⟩
  have G_need_disk := ok_need_disk (P := l.prog) (w := w) (base := base) F_need_disk c_MOST_TRACKS c_MOST_SECTORS c_MOST_PACE
  have G_need_asks := ok_need_asks (P := l.prog) (w := w) (base := base) F_need_asks z_range z_len c_MOST_ASKS c_MOST_COME
  have G_number_of := ok_number_of (P := l.prog) (w := w) (base := base) F_number_of z_len z_int c_MOST_FIGURES c_FIGURES
  have G_written := ok_written (P := l.prog) (w := w) (base := base) F_written G_need_disk C_need_disk G_need_asks C_need_asks z_str
  have G_read := ok_read (P := l.prog) (w := w) (base := base) F_read G_need_disk C_need_disk G_need_asks C_need_asks G_number_of C_number_of z_len z_range z_tuple
  have G__law_taken := ok_l_taken (P := l.prog) (w := w) (base := base) F__law_taken z_len
  have G__law_alike := ok_l_alike (P := l.prog) (w := w) (base := base) F__law_alike C__law_alike.b C__law_alike.m z_isinstance z_tuple z_list z_bool z_str z_int z_len z_range 4
  have G__law_disk := ok_l_disk (P := l.prog) (w := w) (base := base) F__law_disk G__law_taken C__law_taken.m C__law_taken.k C__law_taken.b
  have G__law_asks := ok_l_asks (P := l.prog) (w := w) (base := base) F__law_asks G__law_taken C__law_taken.m C__law_taken.k C__law_taken.b z_min z_range
  have G__law_text := ok_l_text (P := l.prog) (w := w) (base := base) F__law_text z_str
  exact ok_law F_law G__law_disk C__law_disk G__law_asks C__law_asks G_written C_written G_read C_read G__law_text C__law_text G__law_alike C__law_alike z_range
end Ag

open PySem PySem.W PyProof.Rows in
set_option maxRecDepth 100000 in
set_option maxHeartbeats 0 in
theorem PySem.Challenge.cw_armorder_k09_written_and_read_holds : PySem.Challenge.rw_armorder_k09_written_and_read.Holds := by
  w_on; o_law; k_head; (case hw => w_witness2)
  k_fill
  refine L2.walk_of (l := PySem.Challenge.rw_armorder_k09_written_and_read) (n := 63) (k := 6) (x := "_law_script") (CX := fun _ => L2.CX0) (sp := fun w => Ag.sp_law _) rfl (by decide) rfl ⟨rfl, by decide, by decide⟩ (fun w h Y => PySem.W.kIn_of Y) ?F (fun _ _ a ns hl hO hS => ⟨a, ns, rfl, Ag.scr_of hO hS, fun _ => rfl⟩) (fun _ _ _ _ _ z => z)
  case F =>
    intro w mg fa h KX G hmg
    refine' Ag.all_mk KX G hmg ?a_need_disk ?l_need_disk ?c_need_disk ?k_need_disk ?a_need_asks ?l_need_asks ?c_need_asks ?k_need_asks ?a_number_of ?l_number_of ?c_number_of ?k_number_of ?a_written ?l_written ?c_written ?k_written ?a_read ?l_read ?c_read ?k_read ?a__law_taken ?l__law_taken ?c__law_taken ?k__law_taken ?a__law_alike ?l__law_alike ?c__law_alike ?k__law_alike ?a__law_disk ?l__law_disk ?c__law_disk ?k__law_disk ?a__law_asks ?l__law_asks ?c__law_asks ?k__law_asks ?a__law_text ?l__law_text ?c__law_text ?k__law_text ?a_law ?l_law ?c_law ?k_law ?y_bool ?y_int ?y_isinstance ?y_len ?y_list ?y_min ?y_range ?y_str ?y_tuple ?y_FIGURES ?y_MOST_ASKS ?y_MOST_COME ?y_MOST_FIGURES ?y_MOST_PACE ?y_MOST_SECTORS ?y_MOST_TRACKS
    (case a_need_disk => k_is)
    (case l_need_disk => k_is)
    (case c_need_disk => k_is)
    (case k_need_disk => k_is)
    (case a_need_asks => k_is)
    (case l_need_asks => k_is)
    (case c_need_asks => k_is)
    (case k_need_asks => k_is)
    (case a_number_of => k_is)
    (case l_number_of => k_is)
    (case c_number_of => k_is)
    (case k_number_of => k_is)
    (case a_written => k_is)
    (case l_written => k_is)
    (case c_written => k_is)
    (case k_written => k_is)
    (case a_read => k_is)
    (case l_read => k_is)
    (case c_read => k_is)
    (case k_read => k_is)
    (case a__law_taken => k_is)
    (case l__law_taken => k_is)
    (case c__law_taken => k_is)
    (case k__law_taken => k_is)
    (case a__law_alike => k_is)
    (case l__law_alike => k_is)
    (case c__law_alike => k_is)
    (case k__law_alike => k_is)
    (case a__law_disk => k_is)
    (case l__law_disk => k_is)
    (case c__law_disk => k_is)
    (case k__law_disk => k_is)
    (case a__law_asks => k_is)
    (case l__law_asks => k_is)
    (case c__law_asks => k_is)
    (case k__law_asks => k_is)
    (case a__law_text => k_is)
    (case l__law_text => k_is)
    (case c__law_text => k_is)
    (case k__law_text => k_is)
    (case a_law => k_is)
    (case l_law => k_is)
    (case c_law => k_is)
    (case k_law => k_is)
    (case y_bool => k_is)
    (case y_int => k_is)
    (case y_isinstance => k_is)
    (case y_len => k_is)
    (case y_list => k_is)
    (case y_min => k_is)
    (case y_range => k_is)
    (case y_str => k_is)
    (case y_tuple => k_is)
    (case y_FIGURES => k_is)
    (case y_MOST_ASKS => k_is)
    (case y_MOST_COME => k_is)
    (case y_MOST_FIGURES => k_is)
    (case y_MOST_PACE => k_is)
    (case y_MOST_SECTORS => k_is)
    (case y_MOST_TRACKS => k_is)

